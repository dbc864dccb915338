/-
  Messages of packets, written.
-/
import Derived.Test.YtkolmkdbjagfcaaGreatRENM2
import Derived.Deep.AppendSrc
import Derived.Lib.AppendZerosOnto
import Derived.DeepKeys5
import Derived.WideKeyRuns

set_option linter.unusedSimpArgs false
set_option linter.unusedVariables false
namespace Go.Hb

theorem lst_foldl_comm (a : Array Bool) (i j : Nat) : (a.setIfInBounds i true).setIfInBounds j true = (a.setIfInBounds j true).setIfInBounds i true := by
  by_cases h : i = j
  · subst h; rfl
  · exact Array.setIfInBounds_comm _ _ h
theorem lst_perm {ops : List Oper} {l l' : List Nat} (h : l.Perm l') : lst ops l = lst ops l' := by
  unfold lst
  exact h.foldl_eq' (fun x _ y _ z => lst_foldl_comm z x y) _
theorem lst_getD {ops : List Oper} : ∀ {l : List Nat} {j : Nat} (d : Bool), j < ops.length → (lst ops l).getD j d = l.contains j := by
  intro l
  have gen : ∀ (l : List Nat) (a : Array Bool) (j : Nat) (d : Bool), j < a.size → (l.foldl (fun l i => l.setIfInBounds i true) a).getD j d = (l.contains j || a.getD j d) := by
    intro l
    induction l with
    | nil => intro a j d _; simp
    | cons x r ih =>
      intro a j d hj
      rw [List.foldl_cons, ih _ _ _ (by simpa using hj)]
      by_cases hx : x = j
      · subst hx; simp [hj]
      · have e : (a.setIfInBounds x true).getD j d = a.getD j d := by simp [Array.getElem?_setIfInBounds_ne hx]
        have e2 : (j == x) = false := by simpa using fun h => hx h.symm
        rw [e, List.contains_cons, e2, Bool.false_or]
  intro j d hj
  unfold lst
  rw [gen _ _ _ _ (by simpa using hj)]
  simp [hj]
theorem ready_more {ops : List Oper} {l : List Nat} {j : Nat} (h : j ∈ Region.ready .any ops.toArray (lst ops l)) : ∀ (l' : List Nat), (∀ x ∈ l', j ≠ x) → j ∈ Region.ready .any ops.toArray (lst ops (l ++ l')) := by
  intro l'
  induction l' generalizing l with
  | nil => intro _; simpa using h
  | cons x r ih =>
    intro hx
    have := ready_mono (i := x) h (hx x List.mem_cons_self)
    rw [← lst_snoc] at this
    have h2 := ih this (fun y hy => hx y (List.mem_cons_of_mem _ hy))
    simpa using h2
theorem St.pushL {w0 w w' : World} {F : Nat → Prop} {L A : List Asrt} (h : St w0 F L w) (hA : St w NoF A w') (he : ∀ x ∈ A, x.excl = true) : St w0 F (A ++ L) w' := by
  have h' := h.grew hA.toKeep
  have hnew : ∀ a ∈ A, ∀ k, a.foot k → w.heap.size ≤ k := fun a ha k hk => Nat.le_of_not_lt fun hlt => hA.mine a ha (he a ha) k hk hlt
  refine ⟨h'.os, h'.tape, h'.output, h'.size, h'.keep, ?_, ?_, ?_, ?_, ?_⟩
  · intro a ha; rcases List.mem_append.1 ha with ha | ha
    · exact hA.holds a ha
    · exact h'.holds a ha
  · intro a ha; rcases List.mem_append.1 ha with ha | ha
    · exact hA.live a ha
    · exact h'.live a ha
  · intro a ha hx k hk hlt; rcases List.mem_append.1 ha with ha | ha
    · have := hnew a ha k hk; have := h.size; omega
    · exact h'.mine a ha hx k hk hlt
  · refine List.pairwise_append.2 ⟨hA.dis, h'.dis, fun a ha b hb _ k hk hk2 => ?_⟩
    have := hnew a ha k hk; have := h.live b hb k hk2; omega
  · intro a ha; rcases List.mem_append.1 ha with ha | ha
    · exact hA.dep a ha
    · exact h'.dep a ha

structure PI (P : Program) (n : Nat) (ops : List Oper) where
  i : Nat
  d : Nat
  vs : List (Nat × Value)
  C : World → Prop
  val : Nat → Value
  A : Nat → List Asrt
  ok : ∀ (Q : Exit → Act → World → Prop) (h : Frm) (w : World) (a : Act) (K : Act → World → Prop), Has h vs → C w → Fits n a h → (∀ b w' a', St w NoF (A b) w' → Fits n a' (upd h d (val b)) → K a' w') → wpOp P ops.toArray Q i K a w
  ex : ∀ b, ∀ x ∈ A b, x.excl = true

section
variable {P : Program} {n : Nat} {ops : List Oper} {Q : Post} {f : Frm} {C S : World → Prop}

def sF : List (PI P n ops × Option Nat) → Frm → Frm
  | [], f => f
  | (p, some b) :: r, f => upd (sF r f) p.d (p.val b)
  | (_, none) :: r, f => sF r f
def sL : List (PI P n ops × Option Nat) → List Asrt
  | [] => []
  | (p, some b) :: r => p.A b ++ sL r
  | (_, none) :: r => sL r
def sD : List (PI P n ops × Option Nat) → List Nat
  | [] => []
  | (p, some _) :: r => p.i :: sD r
  | (_, none) :: r => sD r
def nD : List (PI P n ops × Option Nat) → List Nat
  | [] => []
  | (_, some _) :: r => nD r
  | (p, none) :: r => p.d :: nD r
def nI : List (PI P n ops × Option Nat) → List Nat
  | [] => []
  | (_, some _) :: r => nI r
  | (p, none) :: r => p.i :: nI r

variable {σ σ1 σ2 : List (PI P n ops × Option Nat)} {p : PI P n ops} {b : Nat}
theorem sL_set : (sL (σ1 ++ (p, some b) :: σ2)).Perm (p.A b ++ sL (σ1 ++ (p, none) :: σ2)) := by
  induction σ1 with
  | nil => exact List.Perm.refl _
  | cons x r ih =>
    obtain ⟨q, o⟩ := x
    cases o with
    | none => exact ih
    | some c =>
      show (q.A c ++ sL (r ++ (p, some b) :: σ2)).Perm (p.A b ++ (q.A c ++ sL (r ++ (p, none) :: σ2)))
      refine (ih.append_left _).trans ?_
      rw [← List.append_assoc, ← List.append_assoc]
      exact List.perm_append_comm.append_right _
theorem sD_set : (sD (σ1 ++ (p, some b) :: σ2)).Perm (p.i :: sD (σ1 ++ (p, none) :: σ2)) := by
  induction σ1 with
  | nil => exact List.Perm.refl _
  | cons x r ih =>
    obtain ⟨q, o⟩ := x
    cases o with
    | none => exact ih
    | some c => exact (ih.cons q.i).trans (List.Perm.swap _ _ _)
theorem sDnI : ∀ (σ : List (PI P n ops × Option Nat)), (sD σ ++ nI σ).Perm ((σ.map Prod.fst).map PI.i)
  | [] => List.Perm.refl _
  | (p, some b) :: r => (sDnI r).cons p.i
  | (p, none) :: r => by
    show (sD r ++ p.i :: nI r).Perm (p.i :: (r.map Prod.fst).map PI.i)
    exact List.perm_middle.trans ((sDnI r).cons p.i)
theorem sF_off : ∀ {σ : List (PI P n ops × Option Nat)} {t : Nat}, t ∉ (σ.map Prod.fst).map PI.d → sF σ f t = f t
  | [], t, _ => rfl
  | (p, some b) :: r, t, h => by
    simp only [List.map_cons, List.mem_cons, not_or] at h
    show upd _ _ _ t = _
    rw [upd_ne _ _ _ _ h.1, sF_off h.2]
  | (p, none) :: r, t, h => by
    simp only [List.map_cons, List.mem_cons, not_or] at h
    exact sF_off (σ := r) h.2
theorem nD_sub : ∀ {σ : List (PI P n ops × Option Nat)} {t : Nat}, t ∈ nD σ → t ∈ (σ.map Prod.fst).map PI.d
  | (p, some b) :: r, t, h => by simp only [List.map_cons]; exact List.mem_cons_of_mem _ (nD_sub (σ := r) h)
  | (p, none) :: r, t, h => by
    simp only [List.map_cons]
    rcases List.mem_cons.1 h with rfl | h
    · exact List.mem_cons_self
    · exact List.mem_cons_of_mem _ (nD_sub (σ := r) h)
theorem sF_in {f f' : Frm} : ∀ {σ : List (PI P n ops × Option Nat)} {t : Nat}, ((σ.map Prod.fst).map PI.d).Nodup → t ∈ (σ.map Prod.fst).map PI.d → t ∉ nD σ → sF σ f t = sF σ f' t
  | (p, some b) :: r, t, hn, ht, h => by
    simp only [List.map_cons, List.nodup_cons] at hn
    simp only [List.map_cons] at ht
    show upd _ _ _ t = upd _ _ _ t
    by_cases e : t = p.d
    · subst e; rw [upd_same, upd_same]
    · rw [upd_ne _ _ _ _ e, upd_ne _ _ _ _ e]
      rcases List.mem_cons.1 ht with ht | ht
      · exact absurd ht e
      · exact sF_in (σ := r) hn.2 ht h
  | (p, none) :: r, t, hn, ht, h => by
    simp only [List.map_cons, List.nodup_cons] at hn
    simp only [List.map_cons] at ht
    have h : t ∉ p.d :: nD r := h
    simp only [List.mem_cons, not_or] at h
    rcases List.mem_cons.1 ht with ht | ht
    · exact absurd ht h.1
    · exact sF_in (σ := r) hn.2 ht h.2
theorem sF_set {f : Frm} : ∀ {σ1 : List (PI P n ops × Option Nat)}, (((σ1 ++ (p, none) :: σ2).map Prod.fst).map PI.d).Nodup → sF (σ1 ++ (p, some b) :: σ2) f = upd (sF (σ1 ++ (p, none) :: σ2) f) p.d (p.val b)
  | [], _ => rfl
  | (q, none) :: r, hn => by
    simp only [List.cons_append, List.map_cons, List.nodup_cons] at hn
    exact sF_set (σ1 := r) hn.2
  | (q, some c) :: r, hn => by
    simp only [List.cons_append, List.map_cons, List.nodup_cons] at hn
    have hne : q.d ≠ p.d := fun e => hn.1 (by rw [e]; simp)
    show upd (sF (r ++ (p, some b) :: σ2) f) q.d (q.val c) = upd (upd (sF (r ++ (p, none) :: σ2) f) q.d (q.val c)) p.d (p.val b)
    rw [sF_set (σ1 := r) hn.2]
    funext t
    by_cases h1 : t = q.d
    · subst h1; rw [upd_same, upd_ne _ _ _ _ hne, upd_same]
    · rw [upd_ne _ _ _ _ h1]
      by_cases h2 : t = p.d
      · subst h2; rw [upd_same, upd_same]
      · rw [upd_ne _ _ _ _ h2, upd_ne _ _ _ _ h2, upd_ne _ _ _ _ h1]
theorem nD_set : ∀ {σ1 : List (PI P n ops × Option Nat)} {t : Nat}, t ∈ nD (σ1 ++ (p, none) :: σ2) → t = p.d ∨ t ∈ nD (σ1 ++ (p, some b) :: σ2)
  | [], t, h => List.mem_cons.1 h
  | (q, none) :: r, t, h => by
    rcases List.mem_cons.1 h with rfl | h
    · exact .inr List.mem_cons_self
    · rcases nD_set (σ1 := r) h with h | h
      · exact .inl h
      · exact .inr (List.mem_cons_of_mem _ h)
  | (q, some c) :: r, t, h => nD_set (σ1 := r) h
theorem nI_len : ∀ {σ1 : List (PI P n ops × Option Nat)}, (nI (σ1 ++ (p, none) :: σ2)).length = (nI (σ1 ++ (p, some b) :: σ2)).length + 1
  | [] => rfl
  | (q, none) :: r => by show (nI (r ++ _)).length + 1 = _; exact congrArg (· + 1) (nI_len (σ1 := r))
  | (q, some c) :: r => nI_len (σ1 := r)
theorem nI_find : ∀ {σ : List (PI P n ops × Option Nat)} {j : Nat}, j ∈ nI σ → ∃ σ1 p σ2, σ = σ1 ++ (p, none) :: σ2 ∧ p.i = j
  | (p, none) :: r, j, h => by
    rcases List.mem_cons.1 h with rfl | h
    · exact ⟨[], p, r, rfl, rfl⟩
    · obtain ⟨a, q, c, rfl, e⟩ := nI_find (σ := r) h
      exact ⟨(p, none) :: a, q, c, rfl, e⟩
  | (p, some b) :: r, j, h => by
    obtain ⟨a, q, c, rfl, e⟩ := nI_find (σ := r) h
    exact ⟨(p, some b) :: a, q, c, rfl, e⟩

variable {w0 : World} {F : Nat → Prop} {L : List Asrt} {pend : List (PI P n ops)} {done : List Nat}

def PS (P : Program) (n : Nat) (ops : List Oper) (Q : Post) (done : List Nat) (S : World → Prop) (f : Frm) (w0 : World) (F : Nat → Prop) (L : List Asrt) (σ : List (PI P n ops × Option Nat)) : Prop :=
  ∀ w, St w0 F (L ++ sL σ) w → ∀ g, (∀ t, t ∉ nD σ → g t = sF σ f t) → ∀ a, Fits n a g →
    wpAnyH P .any ops.toArray (lift n (only fun f w => Q .normal f w)) S (ops.length - (done.length + (sD σ).length)) (lst ops (done ++ sD σ)) a w
def DP (P : Program) (n : Nat) (ops : List Oper) (Q : Post) (pend : List (PI P n ops)) (done : List Nat) (S : World → Prop) (f : Frm) (w0 : World) (F : Nat → Prop) (L : List Asrt) : Prop :=
  ∀ σ, σ.map Prod.fst = pend → PS P n ops Q done S f w0 F L σ

def PAll (f : Frm) (w0 : World) (F : Nat → Prop) (L : List Asrt) : List (PI P n ops) → Prop
  | [] => True
  | p :: r => Has f p.vs ∧ (∀ A w, St w0 F (L ++ A) w → p.C w) ∧ PAll f w0 F L r
theorem PAll.get : ∀ {pend : List (PI P n ops)}, PAll f w0 F L pend → ∀ p ∈ pend, Has f p.vs ∧ ∀ A w, St w0 F (L ++ A) w → p.C w
  | q :: r, h, p, hp => by
    rcases List.mem_cons.1 hp with rfl | hp
    · exact ⟨h.1, h.2.1⟩
    · exact PAll.get h.2.2 p hp
theorem has_same {f g : Frm} : ∀ {vs : List (Nat × Value)}, Has f vs → (∀ q ∈ vs, g q.1 = f q.1) → Has g vs
  | [], _, _ => trivial
  | q :: r, h, hg => ⟨(hg q List.mem_cons_self).trans h.1, has_same h.2 fun x hx => hg x (List.mem_cons_of_mem _ hx)⟩
def pOk (pend : List (PI P n ops)) : Bool :=
  decide (pend.map PI.i).Nodup && decide (pend.map PI.d).Nodup && pend.all fun p => p.vs.all fun q => !(pend.map PI.d).contains q.1
def pOkL (is ds : List Nat) (vss : List (List Nat)) : Bool := decide is.Nodup && decide ds.Nodup && vss.all fun l => l.all fun q => !ds.contains q
theorem pOk_of {is ds : List Nat} {vss : List (List Nat)} (h1 : pend.map PI.i = is) (h2 : pend.map PI.d = ds) (h3 : (pend.map fun p => p.vs.map Prod.fst) = vss) (h : pOkL is ds vss = true) : pOk pend = true := by
  subst h1 h2 h3
  simpa [pOk, pOkL, List.all_map, Function.comp_def] using h

theorem PS.exec (hp : pOk pend = true) (hall : PAll f w0 F L pend) (hS : ∀ A w, St w0 F (L ++ A) w → S w) (he : σ1.map Prod.fst ++ p :: σ2.map Prod.fst = pend) (hlen : done.length + (sD (σ1 ++ (p, none) :: σ2)).length < ops.length)
    (ih : ∀ b, PS P n ops Q done S f w0 F L (σ1 ++ (p, some b) :: σ2)) {w : World} (hw : St w0 F (L ++ sL (σ1 ++ (p, none) :: σ2)) w) {g : Frm} (hg : ∀ t, t ∉ nD (σ1 ++ (p, none) :: σ2) → g t = sF (σ1 ++ (p, none) :: σ2) f t) {a : Act} (ha : Fits n a g) {fuel : Nat} (hf : ops.length - (done.length + (sD (σ1 ++ (p, none) :: σ2)).length) = fuel + 1) :
    wpOp P ops.toArray (lift n (only fun f w => Q .normal f w)) p.i (fun a' w' => S w' ∧ wpAnyH P .any ops.toArray (lift n (only fun f w => Q .normal f w)) S fuel ((lst ops (done ++ sD (σ1 ++ (p, none) :: σ2))).setIfInBounds p.i true) a' w') a w := by
  have hpm : p ∈ pend := by rw [← he]; simp
  obtain ⟨hh, hC⟩ := hall.get p hpm
  simp only [pOk, Bool.and_eq_true, decide_eq_true_eq, List.all_eq_true] at hp
  obtain ⟨⟨hn1, hn2⟩, hn3⟩ := hp
  have hmap : ∀ o, (σ1 ++ (p, o) :: σ2).map Prod.fst = pend := fun o => by rw [List.map_append, List.map_cons]; exact he
  have hd2 : (((σ1 ++ (p, none) :: σ2).map Prod.fst).map PI.d).Nodup := by rw [hmap]; exact hn2
  refine p.ok _ g w a _ (has_same hh fun q hq => ?_) (hC _ _ hw) ha fun b w' a' hb ha' => ?_
  · have h3 := hn3 p hpm q hq
    have h4 : q.1 ∉ ((σ1 ++ (p, none) :: σ2).map Prod.fst).map PI.d := by rw [hmap]; simpa using h3
    rw [hg _ (fun hx => h4 (nD_sub hx)), sF_off h4]
  · have h1 : St w0 F (L ++ sL (σ1 ++ (p, some b) :: σ2)) w' := by
      refine (hw.pushL hb (p.ex b)).perm ?_
      refine List.Perm.trans ?_ (sL_set.symm.append_left L)
      rw [← List.append_assoc, ← List.append_assoc]
      exact List.perm_append_comm.append_right _
    refine ⟨hS _ _ h1, ?_⟩
    have h2 := ih b w' h1 (upd g p.d (p.val b)) (fun t ht => ?_) a' ha'
    · have e1 : lst ops (done ++ sD (σ1 ++ (p, some b) :: σ2)) = (lst ops (done ++ sD (σ1 ++ (p, none) :: σ2))).setIfInBounds p.i true := by
        rw [← lst_snoc]
        refine lst_perm ?_
        rw [List.append_assoc]
        exact (sD_set.trans (List.perm_append_comm (l₁ := [p.i]))).append_left done
      have e2 : ops.length - (done.length + (sD (σ1 ++ (p, some b) :: σ2)).length) = fuel := by
        have := (sD_set (σ1 := σ1) (σ2 := σ2) (p := p) (b := b)).length_eq
        simp only [List.length_cons] at this
        omega
      rw [e1, e2] at h2
      exact h2
    · rw [sF_set hd2]
      by_cases e : t = p.d
      · subst e; rw [upd_same, upd_same]
      · rw [upd_ne _ _ _ _ e, upd_ne _ _ _ _ e]
        refine hg t fun hx => ?_
        rcases nD_set (b := b) hx with h | h
        · exact e h
        · exact ht h

theorem DP.begin (pend : List (PI P n ops)) (h : DP P n ops Q pend done S f w0 F L) : DW P n ops Q done S f (St w0 F L) := by
  intro w hw a ha
  have key : ∀ (pd : List (PI P n ops)), sL (pd.map fun p => (p, (none : Option Nat))) = [] ∧ sD (pd.map fun p => (p, (none : Option Nat))) = [] ∧ ∀ f, sF (pd.map fun p => (p, (none : Option Nat))) f = f := by
    intro pd
    induction pd with
    | nil => exact ⟨rfl, rfl, fun _ => rfl⟩
    | cons q r ih => exact ⟨ih.1, ih.2.1, ih.2.2⟩
  obtain ⟨k1, k2, k3⟩ := key pend
  have := h (pend.map fun p => (p, none)) (by simp [List.map_map, Function.comp_def]) w (by rw [k1, List.append_nil]; exact hw) f (fun t _ => by rw [k3]) a ha
  rw [k2, List.append_nil] at this
  exact this
theorem DP.nil (h : DW P n ops Q done S f (St w0 F L)) : DP P n ops Q [] done S f w0 F L := by
  intro σ hσ w hw g hg a ha
  have : σ = [] := List.map_eq_nil_iff.1 hσ
  subst this
  have e : g = f := funext fun t => hg t (by simp [nD])
  subst e
  have := h w (by simpa [sL] using hw) a ha
  simpa [sD] using this
theorem DP.more (p : PI P n ops) (h : DP P n ops Q (p :: pend) done S f w0 F L) : DP P n ops Q pend done S f w0 F L := by
  intro σ hσ w hw g hg a ha
  refine h ((p, none) :: σ) (by simp [hσ]) w hw g (fun t ht => hg t fun hx => ht (List.mem_cons_of_mem _ hx)) a ha

theorem sD_le : ∀ (σ : List (PI P n ops × Option Nat)), (sD σ).length + (nI σ).length = σ.length
  | [] => rfl
  | (p, some b) :: r => by have := sD_le r; simp only [sD, nI, List.length_cons]; omega
  | (p, none) :: r => by have := sD_le r; simp only [sD, nI, List.length_cons]; omega

def pnext (P : Program) (n : Nat) (ops : List Oper) (Q : Post) (pend : List (PI P n ops)) (done : List Nat) (S : World → Prop) (w0 : World) (F : Nat → Prop) (g : Frm) (A : List Asrt) : Post :=
  only fun f' w' => ∃ (L' : List Asrt) (f'' : Frm), (∀ t, f' t = bif (pend.map PI.d).contains t then g t else f'' t) ∧ St w0 F (L' ++ A) w' ∧ (∀ A w, St w0 F (L' ++ A) w → S w) ∧ DP P n ops Q pend done S f'' w0 F L'

theorem wpOp_of_LR {R : Frm → World → Prop} {i : Nat} {o : Oper} (hi : ops[i]? = some o) {w : World} {a : Act} (ha : Fits n a f) (hC : C w) (h : LR false P n ops [o] (only R) f C) {K : Act → World → Prop} {Qx : Exit → Act → World → Prop}
    (hK : ∀ a' f' w', Fits n a' f' → R f' w' → K a' w') : wpOp P ops.toArray Qx i K a w := by
  have h1 := h w hC a ha
  have ho : ops.toArray[i]? = some o := by simpa using hi
  unfold wpOp
  simp only [ho]
  simp only [wpList] at h1
  have conv : ∀ a' w', lift n (only R) .normal a' w' → K a' w' := by
    intro a' w' hq
    obtain ⟨f', hf', _, hR⟩ := hq
    exact hK a' f' w' hf' hR
  split
  · rename_i hwn
    rw [if_pos hwn] at h1
    rcases h1 with h1 | ⟨_, a', w', f', hf', he, _⟩
    · refine .inl ?_
      have h2 := Oper.wp_mono conv h1
      unfold Oper.wp at h2 ⊢
      generalize (execOp a.eval o).run P w = r at *
      cases r with
      | ok nx w' =>
        cases nx <;> simp only [Oper.upon] at h2 ⊢
        case value => exact h2
        case skip => exact h2
        case defer => exact h2
        case enter g args =>
          refine Calls.mono h2 fun e w'' he => ?_
          cases e with
          | returned u => exact he
          | panicked c => obtain ⟨_, _, he, _⟩ := he; cases he
          | outgrown => obtain ⟨_, _, _, _, he, _⟩ := he; cases he
        case row => exact h2
      | halt x w' =>
        cases x <;> simp only [Oper.upon] at h2 ⊢
        case panic => obtain ⟨_, _, he, _⟩ := h2; cases he
    · cases he
  · rename_i hwn
    rw [if_neg hwn] at h1
    exact conv _ _ h1

theorem DP.loud (i : Nat) {o : Oper} (hi : ops[i]? = some o)
    (hr : (pOk pend && (Region.ready .any ops.toArray (lst ops done)).contains i && (Region.ready .any ops.toArray (lst ops (done ++ pend.map PI.i))).all (fun j => Nat.beq j i) && !(pend.map PI.i).contains i && Nat.blt (done.length + pend.length) ops.length) = true)
    (hall : PAll f w0 F L pend) (hS : ∀ A w, St w0 F (L ++ A) w → S w)
    (h : ∀ g A LA, LA = L ++ A → LR false P n ops [o] (pnext P n ops Q pend (done ++ [i]) S w0 F g A) (mix (pend.map PI.d) g f) (St w0 F LA)) : DP P n ops Q pend done S f w0 F L := by
  simp only [Bool.and_eq_true] at hr
  obtain ⟨⟨⟨⟨hp, hri⟩, hra⟩, hni⟩, hl⟩ := hr
  have hri : i ∈ Region.ready .any ops.toArray (lst ops done) := by simpa using hri
  have hni : i ∉ pend.map PI.i := by
    intro hx
    have : (pend.map PI.i).contains i = true := List.elem_eq_true_of_mem hx
    rw [this] at hni; cases hni
  have hl := blt_lt hl
  have hp' := hp
  simp only [pOk, Bool.and_eq_true, decide_eq_true_eq, List.all_eq_true] at hp'
  obtain ⟨⟨hn1, hn2⟩, hn3⟩ := hp'
  suffices key : ∀ m σ, (nI σ).length = m → σ.map Prod.fst = pend → PS P n ops Q done S f w0 F L σ from fun σ hσ => key _ σ rfl hσ
  intro m
  induction m with
  | zero | succ m ih =>
    intro σ hm hσ w hw g hg a ha
    have hlen : (sD σ).length + (nI σ).length = pend.length := by rw [sD_le, ← hσ]; simp
    have hdn := sDnI σ
    rw [hσ] at hdn
    obtain ⟨fuel, hfuel⟩ : ∃ fuel, ops.length - (done.length + (sD σ).length) = fuel + 1 := ⟨ops.length - (done.length + (sD σ).length) - 1, by omega⟩
    rw [hfuel]
    have hsD : ∀ x ∈ sD σ, x ∈ pend.map PI.i := fun x hx => hdn.mem_iff.1 (List.mem_append_left _ hx)
    have hir : i ∈ Region.ready .any ops.toArray (lst ops (done ++ sD σ)) := ready_more hri _ fun x hx e => hni (e ▸ hsD x hx)
    refine ⟨fun h0 => (by rw [h0] at hir; cases hir), fun j hj => ?_⟩
    by_cases hjp : j ∈ nI σ
    · first
      | (rw [List.eq_nil_of_length_eq_zero hm] at hjp; cases hjp; done)
      | (obtain ⟨σ1, p, σ2, rfl, rfl⟩ := nI_find hjp
         refine PS.exec hp hall hS (by rw [← hσ, List.map_append, List.map_cons]) (by omega) (fun b => ih _ ?_ ?_) hw hg ha hfuel
         · have := nI_len (σ1 := σ1) (σ2 := σ2) (p := p) (b := b); omega
         · rw [← hσ]; simp)
    · have hjr : j ∈ Region.ready .any ops.toArray (lst ops (done ++ pend.map PI.i)) := by
        have h1 := ready_more hj (nI σ) (fun x hx e => hjp (e ▸ hx))
        rwa [lst_perm (l' := done ++ pend.map PI.i) (by rw [List.append_assoc]; exact hdn.append_left done)] at h1
      have hji : j = i := Nat.eq_of_beq_eq_true (List.all_eq_true.1 hra j hjr)
      subst hji
      have hmix : mix (pend.map PI.d) g f = g := by
        funext t
        simp only [mix]
        cases hc : (pend.map PI.d).contains t with
        | true => rfl
        | false =>
          have ht : t ∉ (σ.map Prod.fst).map PI.d := by
            rw [hσ]; intro hx; have hx' : (pend.map PI.d).contains t = true := List.elem_eq_true_of_mem hx; rw [hx'] at hc; cases hc
          rw [cond_false, hg t (fun hx => ht (nD_sub hx)), sF_off ht]
      have hLR := h g (sL σ) _ rfl
      rw [hmix] at hLR
      refine wpOp_of_LR hi ha hw hLR fun a' f' w' hf' ⟨L', f'', h1, h2, h3, h4⟩ => ⟨h3 _ _ h2, ?_⟩
      have h5 := h4 σ hσ w' h2 f' (fun t ht => ?_) a' hf'
      · have e1 : lst ops (done ++ [j] ++ sD σ) = (lst ops (done ++ sD σ)).setIfInBounds j true := by
          rw [← lst_snoc]
          refine lst_perm ?_
          rw [List.append_assoc, List.append_assoc]
          exact List.perm_append_comm.append_left done
        have e2 : ops.length - ((done ++ [j]).length + (sD σ).length) = fuel := by simp only [List.length_append, List.length_cons, List.length_nil]; omega
        rw [e1, e2] at h5
        exact h5
      · rw [h1 t]
        cases hc : (pend.map PI.d).contains t with
        | true =>
          have ht2 : t ∈ (σ.map Prod.fst).map PI.d := by rw [hσ]; simpa using hc
          rw [cond_true, hg t ht]
          exact sF_in (by rw [hσ]; exact hn2) ht2 ht
        | false =>
          have ht2 : t ∉ (σ.map Prod.fst).map PI.d := by
            rw [hσ]; intro hx; have hx' : (pend.map PI.d).contains t = true := List.elem_eq_true_of_mem hx; rw [hx'] at hc; cases hc
          rw [cond_false, sF_off ht2]

theorem DP.settle {r : List (PI P n ops)}
    (hr : (pOk (p :: r) && (Region.ready .any ops.toArray (lst ops done)).contains p.i && (Region.ready .any ops.toArray (lst ops (done ++ r.map PI.i))).all (fun j => Nat.beq j p.i) && Nat.blt (done.length + r.length) ops.length) = true)
    (hall : PAll f w0 F L (p :: r)) (hS : ∀ A w, St w0 F (L ++ A) w → S w)
    (h : ∀ b, DP P n ops Q r (done ++ [p.i]) S (upd f p.d (p.val b)) w0 F (p.A b ++ L)) : DP P n ops Q (p :: r) done S f w0 F L := by
  simp only [Bool.and_eq_true] at hr
  obtain ⟨⟨⟨hp, hri⟩, hra⟩, hl⟩ := hr
  have hri : p.i ∈ Region.ready .any ops.toArray (lst ops done) := by simpa using hri
  have hl := blt_lt hl
  have hp' := hp
  simp only [pOk, Bool.and_eq_true, decide_eq_true_eq, List.all_eq_true] at hp'
  obtain ⟨⟨hn1, hn2⟩, hn3⟩ := hp'
  have hn1' := List.nodup_cons.1 (show (p.i :: r.map PI.i).Nodup from hn1)
  have hn2' := List.nodup_cons.1 (show (p.d :: r.map PI.d).Nodup from hn2)
  suffices key : ∀ m σ, (nI σ).length = m → σ.map Prod.fst = p :: r → PS P n ops Q done S f w0 F L σ from fun σ hσ => key _ σ rfl hσ
  intro m
  induction m with
  | zero | succ m ih =>
    intro σ hm hσ w hw g hg a ha
    match σ, hσ, hm, hw, hg with
    | (q, some b) :: τ, hσ, hm, hw, hg =>
      simp only [List.map_cons, List.cons.injEq] at hσ
      obtain ⟨rfl, hτ⟩ := hσ
      have h5 := h b τ hτ w (hw.perm (by
        show (L ++ (q.A b ++ sL τ)).Perm (q.A b ++ L ++ sL τ)
        rw [← List.append_assoc]
        exact List.perm_append_comm.append_right _)) g (fun t ht => by
          rw [hg t ht]
          show upd (sF τ f) q.d (q.val b) t = _
          by_cases e : t = q.d
          · subst e
            rw [upd_same, sF_off (by rw [hτ]; exact hn2'.1), upd_same]
          · rw [upd_ne _ _ _ _ e]
            by_cases ht2 : t ∈ (τ.map Prod.fst).map PI.d
            · exact sF_in (by rw [hτ]; exact hn2'.2) ht2 ht
            · rw [sF_off ht2, sF_off ht2, upd_ne _ _ _ _ e]) a ha
      have e1 : lst ops (done ++ [q.i] ++ sD τ) = lst ops (done ++ sD ((q, some b) :: τ)) := by rw [List.append_assoc]; rfl
      have e2 : (done ++ [q.i]).length + (sD τ).length = done.length + (sD ((q, some b) :: τ)).length := by simp [sD]; omega
      rw [e1, e2] at h5
      exact h5
    | (q, none) :: τ, hσ, hm, hw, hg =>
      simp only [List.map_cons, List.cons.injEq] at hσ
      obtain ⟨rfl, hτ⟩ := hσ
      first
      | (simp only [nI, List.length_cons, Nat.add_one_ne_zero] at hm; done)
      | (
      have hlen : (sD τ).length + (nI τ).length = r.length := by rw [sD_le, ← hτ]; simp
      have hdn := sDnI τ
      rw [hτ] at hdn
      have hsd : sD ((q, none) :: τ) = sD τ := rfl
      obtain ⟨fuel, hfuel⟩ : ∃ fuel, ops.length - (done.length + (sD ((q, none) :: τ)).length) = fuel + 1 := ⟨ops.length - (done.length + (sD τ).length) - 1, by rw [hsd]; omega⟩
      rw [hfuel]
      have hsD : ∀ x ∈ sD τ, x ∈ r.map PI.i := fun x hx => hdn.mem_iff.1 (List.mem_append_left _ hx)
      have hir : q.i ∈ Region.ready .any ops.toArray (lst ops (done ++ sD τ)) := ready_more hri _ fun x hx e => hn1'.1 (e ▸ hsD x hx)
      rw [hsd]
      refine ⟨fun h0 => (by rw [h0] at hir; cases hir), fun j hj => ?_⟩
      have hjn : j ∈ nI ((q, none) :: τ) := by
        by_cases hjp : j ∈ nI τ
        · exact List.mem_cons_of_mem _ hjp
        · have hjr : j ∈ Region.ready .any ops.toArray (lst ops (done ++ r.map PI.i)) := by
            have h1 := ready_more hj (nI τ) (fun x hx e => hjp (e ▸ hx))
            rwa [lst_perm (l' := done ++ r.map PI.i) (by rw [List.append_assoc]; exact hdn.append_left done)] at h1
          have hji : j = q.i := Nat.eq_of_beq_eq_true (List.all_eq_true.1 hra j hjr)
          rw [hji]; exact List.mem_cons_self
      obtain ⟨σ1, p', σ2, e, rfl⟩ := nI_find hjn
      have hm' : σ1.map Prod.fst ++ p' :: σ2.map Prod.fst = q :: r := by
        have := congrArg (List.map Prod.fst) e
        rw [List.map_append, List.map_cons, List.map_cons, hτ] at this
        exact this.symm
      rw [← hsd]
      rw [e] at hw hg hm hfuel ⊢
      refine PS.exec hp hall hS hm' (by rw [← e, hsd]; omega) (fun b => ih _ ?_ ?_) hw hg ha hfuel
      · have := nI_len (σ1 := σ1) (σ2 := σ2) (p := p') (b := b); omega
      · rw [← hm']; simp)
variable {is ds : List Nat} {vss : List (List Nat)}
theorem DP.go (i : Nat) (is ds : List Nat) (vss : List (List Nat)) {o : Oper} (hi : ops[i]? = some o) (h1 : pend.map PI.i = is) (h2 : pend.map PI.d = ds) (h3 : (pend.map fun p => p.vs.map Prod.fst) = vss)
    (hr : (pOkL is ds vss && (Region.ready .any ops.toArray (lst ops done)).contains i && (Region.ready .any ops.toArray (lst ops (done ++ is))).all (fun j => Nat.beq j i) && !is.contains i && Nat.blt (done.length + is.length) ops.length) = true)
    (hall : PAll f w0 F L pend) (hS : ∀ A w, St w0 F (L ++ A) w → S w)
    (h : ∀ g A LA, LA = L ++ A → LR false P n ops [o] (pnext P n ops Q pend (done ++ [i]) S w0 F g A) (mix ds g f) (St w0 F LA)) : DP P n ops Q pend done S f w0 F L := by
  simp only [Bool.and_eq_true] at hr
  have hp := pOk_of h1 h2 h3 hr.1.1.1.1
  have hl : is.length = pend.length := by rw [← h1]; simp
  subst h1 h2
  exact DP.loud i hi (by simp only [Bool.and_eq_true]; exact ⟨⟨⟨⟨hp, hr.1.1.1.2⟩, hr.1.1.2⟩, hr.1.2⟩, by rw [← hl]; exact hr.2⟩) hall hS h
theorem DP.take (i d : Nat) (val : Nat → Value) (A : Nat → List Asrt) (is ds : List Nat) (vss : List (List Nat)) {r : List (PI P n ops)} (hp1 : p.i = i) (hpd : p.d = d) (hpv : p.val = val) (hpA : p.A = A) (h1 : r.map PI.i = is) (h2 : (p :: r).map PI.d = ds) (h3 : ((p :: r).map fun p => p.vs.map Prod.fst) = vss)
    (hr : (pOkL (i :: is) ds vss && (Region.ready .any ops.toArray (lst ops done)).contains i && (Region.ready .any ops.toArray (lst ops (done ++ is))).all (fun j => Nat.beq j i) && Nat.blt (done.length + is.length) ops.length) = true)
    (hall : PAll f w0 F L (p :: r)) (hS : ∀ A w, St w0 F (L ++ A) w → S w)
    (h : ∀ b, DP P n ops Q r (done ++ [i]) S (upd f d (val b)) w0 F (A b ++ L)) : DP P n ops Q (p :: r) done S f w0 F L := by
  simp only [Bool.and_eq_true] at hr
  have hp := pOk_of (pend := p :: r) (is := i :: is) (by rw [List.map_cons, h1, hp1]) h2 h3 hr.1.1.1
  have hl : is.length = r.length := by rw [← h1]; simp
  subst h1 hp1 hpd hpv hpA
  exact DP.settle (by simp only [Bool.and_eq_true]; exact ⟨⟨⟨hp, hr.1.1.2⟩, hr.1.2⟩, by rw [← hl]; exact hr.2⟩) hall hS h

theorem lst_sub {l e : List Nat} {j : Nat} (hj : j < ops.length) (h : (lst ops l).getD j true = true) : (lst ops (l ++ e)).getD j true = true := by
  rw [lst_getD _ hj] at h ⊢
  simp only [List.contains_iff_mem] at h ⊢
  exact List.mem_append_left _ h
theorem free_more {l e : List Nat} {i : Nat} (h : Region.free .any ops.toArray (lst ops l) i = true) : Region.free .any ops.toArray (lst ops (l ++ e)) i = true := by
  unfold Region.free at h ⊢
  split
  · rename_i h0; rw [h0] at h; exact h
  · rename_i oi h0
    rw [h0] at h
    simp only [List.all_eq_true, List.mem_range] at h ⊢
    intro j hj
    have hj' : j < ops.length := by simpa using hj
    have := h j hj
    simp only [Bool.or_eq_true] at this ⊢
    rcases this with (h1 | h1) | h1
    · exact .inl (.inl h1)
    · exact .inl (.inr (lst_sub hj' h1))
    · exact .inr h1
theorem headB_more : ∀ {H l e : List Nat}, headB ops.toArray (lst ops l) H = true → (∀ x ∈ e, x ∉ H) → headB ops.toArray (lst ops (l ++ e)) H = true
  | [], _, _, _, _ => rfl
  | i :: r, l, e, h, he => by
    simp only [headB, Bool.and_eq_true] at h ⊢
    obtain ⟨⟨h1, h2⟩, h3⟩ := h
    refine ⟨⟨?_, free_more h2⟩, ?_⟩
    · have : i ∈ Region.ready .any ops.toArray (lst ops l) := by simpa using h1
      have := ready_more this e (fun x hx e2 => he x hx (e2 ▸ List.mem_cons_self))
      simpa using this
    · rw [← lst_snoc] at h3 ⊢
      have := headB_more (H := r) (e := e) h3 (fun x hx hr => he x hx (List.mem_cons_of_mem _ hr))
      rw [lst_perm (l' := l ++ e ++ [i])] at this
      · exact this
      · rw [List.append_assoc, List.append_assoc]
        exact List.perm_append_comm.append_left l
theorem quiet_go {K : Frm → Prop} {w : World} {R : Frm → World → Prop} : ∀ (H l : List Nat) (fr : Frm) (a : Act) (fuel : Nat), headB ops.toArray (lst ops l) H = true → Region.noSelect ops.toArray = true → QL P n ops S K H fr → Fits n a fr → S w →
    (∀ fr' a', K fr' → Fits n a' fr' → wpAnyH P .any ops.toArray (lift n (only R)) S fuel (lst ops (l ++ H)) a' w) → wpAnyH P .any ops.toArray (lift n (only R)) S (fuel + H.length) (lst ops l) a w
  | [], l, fr, a, fuel, _, _, hq, ha, _, hk => by
    have := hk fr a hq ha
    simpa using this
  | i :: r, l, fr, a, fuel, hB, hs, hq, ha, hS, hk => by
    simp only [headB, Bool.and_eq_true] at hB
    obtain ⟨⟨h1, h2⟩, h3⟩ := hB
    obtain ⟨o, v, ho, hd, hy, hq'⟩ := hq
    have ih := quiet_go (R := R) r (l ++ [i]) _ _ fuel (by rw [lst_snoc]; exact h3) hs hq' (ha.putO o.dst v hd) hS (fun fr' a' hK hf => by
      have := hk fr' a' hK hf
      rw [List.append_assoc]; exact this)
    rw [lst_snoc] at ih
    have e : fuel + (i :: r).length = (fuel + r.length) + 1 := by simp only [List.length_cons]; omega
    rw [e]
    exact wpAnyH_take (by simpa using ho) hs h2 h1 (fun c a w hq => by obtain ⟨_, _, he, _⟩ := hq; cases he) (hy a ha) hS ih
def pq (P : Program) (n : Nat) (ops : List Oper) (Q : Post) (pend : List (PI P n ops)) (done : List Nat) (S : World → Prop) (w0 : World) (F : Nat → Prop) (L : List Asrt) (ds : List Nat) (g : Frm) : Frm → Prop :=
  fun f' => ∃ f'', (∀ t, f' t = bif ds.contains t then g t else f'' t) ∧ DP P n ops Q pend done S f'' w0 F L
theorem DP.quiet (H is ds : List Nat) (h1 : pend.map PI.i = is) (h2 : pend.map PI.d = ds)
    (hr : (decide ds.Nodup && headB ops.toArray (lst ops done) H && Region.noSelect ops.toArray && Nat.ble (done.length + H.length + is.length) ops.length && is.all (fun i => !H.contains i)) = true)
    (hS : ∀ A w, St w0 F (L ++ A) w → S w) (h : ∀ g, QL P n ops S (pq P n ops Q pend (done ++ H) S w0 F L ds g) H (mix ds g f)) : DP P n ops Q pend done S f w0 F L := by
  simp only [Bool.and_eq_true, decide_eq_true_eq] at hr
  obtain ⟨⟨⟨⟨hn2, hB⟩, hs⟩, hl⟩, hd⟩ := hr
  have hl := Nat.le_of_ble_eq_true hl
  have hlen : is.length = pend.length := by rw [← h1]; simp
  subst h1 h2
  intro σ hσ w hw g hg a ha
  have hmix : mix (pend.map PI.d) g f = g := by
    funext t
    simp only [mix]
    cases hc : (pend.map PI.d).contains t with
    | true => rfl
    | false =>
      have ht : t ∉ (σ.map Prod.fst).map PI.d := by
        rw [hσ]; intro hx; have hx' : (pend.map PI.d).contains t = true := List.elem_eq_true_of_mem hx; rw [hx'] at hc; cases hc
      rw [cond_false, hg t (fun hx => ht (nD_sub hx)), sF_off ht]
  have hq := h g
  rw [hmix] at hq
  have hdn := sDnI σ
  rw [hσ] at hdn
  have hsD : ∀ x ∈ sD σ, x ∈ pend.map PI.i := fun x hx => hdn.mem_iff.1 (List.mem_append_left _ hx)
  have hle : (sD σ).length ≤ pend.length := by have := sD_le σ; rw [← hσ, List.length_map]; omega
  have e : ops.length - (done.length + (sD σ).length) = (ops.length - ((done ++ H).length + (sD σ).length)) + H.length := by simp only [List.length_append]; omega
  rw [e]
  refine quiet_go H (done ++ sD σ) g a _ (headB_more hB fun x hx hxH => ?_) hs hq ha (hS _ _ hw) fun fr' a' hK hf => ?_
  · have := List.all_eq_true.1 hd x (hsD x hx)
    have h2 : H.contains x = true := List.elem_eq_true_of_mem hxH
    rw [h2] at this; cases this
  · obtain ⟨f'', h5, h6⟩ := hK
    have := h6 σ hσ w hw fr' (fun t ht => ?_) a' hf
    · rw [lst_perm (l' := done ++ sD σ ++ H)] at this
      · exact this
      · rw [List.append_assoc, List.append_assoc]
        exact List.perm_append_comm.append_left done
    · rw [h5 t]
      cases hc : (pend.map PI.d).contains t with
      | true =>
        have ht2 : t ∈ (σ.map Prod.fst).map PI.d := by rw [hσ]; simpa using hc
        rw [cond_true, hg t ht]
        exact sF_in (by rw [hσ]; exact hn2) ht2 ht
      | false =>
        have ht2 : t ∉ (σ.map Prod.fst).map PI.d := by
          rw [hσ]; intro hx; have hx' : (pend.map PI.d).contains t = true := List.elem_eq_true_of_mem hx; rw [hx'] at hc; cases hc
        rw [cond_false, sF_off ht2]

inductive MixR (ds : List Nat) (g : Frm) : Frm → Frm → Prop
  | base (f : Frm) : MixR ds g (mix ds g f) f
  | upd {f' f0 : Frm} {d : Nat} {v : Value} (h : MixR ds g f' f0) (hd : ds.contains d = false) : MixR ds g (Hb.upd f' d v) (Hb.upd f0 d v)
theorem MixR.eq {g f' f0 : Frm} (h : MixR ds g f' f0) : ∀ t, f' t = bif ds.contains t then g t else f0 t := by
  induction h with
  | base f => exact fun t => rfl
  | @upd f' f0 d v h hd ih =>
    intro t
    by_cases e : t = d
    · subst e; rw [hd, cond_false, upd_same, upd_same]
    · rw [upd_ne _ _ _ _ e, ih t, upd_ne _ _ _ _ e]
inductive Tl (A : List Asrt) : List Asrt → List Asrt → Prop
  | nil : Tl A A []
  | cons {x : Asrt} {l l' : List Asrt} (h : Tl A l l') : Tl A (x :: l) (x :: l')
theorem Tl.eq {A l l' : List Asrt} (h : Tl A l l') : l = l' ++ A := by
  induction h with
  | nil => rfl
  | cons h ih => rw [ih]; rfl
theorem upd_updL {h : Frm} {vs : List (Nat × Value)} (hh : Has h vs) : updL h vs = h := updL_has hh fun _ _ => rfl
def PI.lr (i d : Nat) (vs : List (Nat × Value)) (val : Nat → Value) (A : Nat → List Asrt) {o : Oper} (hi : ops[i]? = some o) (ex : ∀ b, ∀ x ∈ A b, x.excl = true)
    (h : ∀ h w, LR false P n ops [o] (only fun f' w' => ∃ b, f' = upd (updL h vs) d (val b) ∧ St w NoF (A b) w') (updL h vs) (St w NoF [])) : PI P n ops where
  i := i
  d := d
  vs := vs
  C := fun _ => True
  val := val
  A := A
  ok := fun Q fr w a K hh _ ha hk => by
    have := h fr w
    rw [upd_updL hh] at this
    exact wpOp_of_LR hi ha (St.refl w NoF) this fun a' f' w' hf' ⟨b, e, hs⟩ => hk b w' a' hs (by rw [← e]; exact hf')
  ex := ex
theorem At.made {d b : Nat} {h : Frm} {val : Nat → Value} {A : Nat → List Asrt} {w : World} {f' : Frm} (hf : f' = upd h d (val b)) : At (only fun f' w' => ∃ b, f' = upd h d (val b) ∧ St w NoF (A b) w') .normal f' (St w NoF (A b)) := fun _ hw => ⟨rfl, b, hf, hw⟩
def PI.call (i d : Nat) (vs : List (Nat × Value)) (C : World → Prop) (v : Value) {g : FuncId} {xs : List Operand} {args : List Value} {ts : Array TypeId} {T : TypeId} {pp : String} {af : Array Edge} [own : Own P g]
    (hi : ops[i]? = some ⟨some d, .call ⟨.value (.func g), xs.toArray, ts⟩, T, pp, af, none⟩) (hd : Nat.blt d n = true) (hx : ∀ h, xs.map (updL h vs).ev = args)
    (h : ∀ w, C w → CallsTo P g args w fun u w' => u = v ∧ Grew w w') : PI P n ops where
  i := i
  d := d
  vs := vs
  C := C
  val := fun _ => v
  A := fun _ => []
  ok := fun Q fr w a K hh hC ha hk => by
    refine wpOp_of_LR (C := fun u => u = w) hi ha rfl (R := fun f' w' => f' = upd fr d v ∧ Grew w w') (LR.call hd fun w1 e => ?_) fun a' f' w' hf' ⟨e, hs⟩ => hk 0 w' a' hs (by rw [← e]; exact hf')
    subst e
    have hx' := hx fr
    rw [upd_updL hh] at hx'
    rw [hx']
    refine (h w1 hC).mono ?_
    rintro u w' ⟨rfl, hg⟩
    refine LW.sub (D := fun u => u = w') ?_ (fun _ e => e)
    exact LR.nil (m := false) fun w2 e => by subst e; exact ⟨rfl, rfl, hg⟩
  ex := fun _ x hx => by cases hx
theorem St.nilsl {w : World} {L : List Asrt} (E sz : Nat) (h : St w0 F L w) : St w0 F (osl (.slice none 0 0) E sz 0 [] :: L) w := h.newSl ⟨Grew.refl _, World.ownsRow_nil _ _ _ _⟩
end
end Go.Hb

namespace Go.Hb
section
variable {α : Type} {f : α → List Value} {n : Nat}
theorem rows_get (hf : ∀ x, (f x).length = n) : ∀ (l : List α) (i j : Nat) (v : Value) (h : i < l.length), (f l[i])[j]? = some v → (l.flatMap f)[i * n + j]? = some v
  | x :: r, 0, j, v, h, hj => by
    have hlt : j < (f x).length := (List.getElem?_eq_some_iff.1 hj).1
    rw [List.flatMap_cons, Nat.zero_mul, Nat.zero_add, List.getElem?_append_left hlt]
    exact hj
  | x :: r, i + 1, j, v, h, hj => by
    have ih := rows_get hf r i j v (by simpa using h) hj
    rw [List.flatMap_cons, List.getElem?_append_right (by rw [hf]; rw [Nat.add_mul]; omega), hf, show (i + 1) * n + j - n = i * n + j by rw [Nat.add_mul]; omega]
    exact ih
theorem rows_len (hf : ∀ x, (f x).length = n) : ∀ (l : List α), (l.flatMap f).length = l.length * n
  | [] => by simp
  | x :: r => by rw [List.flatMap_cons, List.length_append, hf, rows_len hf r, List.length_cons, Nat.add_mul]; omega
theorem rd_row (hf : ∀ x, (f x).length = n) {w : World} {b o : Nat} {l : List α} (h : Rd w (some ⟨b, o, none⟩) (l.flatMap f)) {i q : Nat} (hi : i < l.length) (hq : q = i * n) : ∀ j v, (f l[i])[j]? = some v → w.cell? ((⟨b, o + q, none⟩ : Addr).add j) = some v := by
  intro j v hj
  subst hq
  rw [addr_add, Nat.add_assoc]
  exact h.cell (rows_get hf l i j v hi hj)
theorem row_cell (hf : ∀ x, (f x).length = n) {w : World} {b o q i : Nat} {l : List α} {v : Value} (h : Rd w (some ⟨b, o, none⟩) (l.flatMap f)) (hi : i < l.length) (j : Nat) (hj : (f l[i])[j]? = some v) (hq : q = o + i * n + j) : w.cell? ⟨b, q, none⟩ = some v := by
  subst hq
  rw [Nat.add_assoc]
  exact h.cell (rows_get hf l i j v hi hj)
theorem rows_ne (hf : ∀ x, (f x).length = n) (hn : 0 < n) {l : List α} {i : Nat} (h : i < l.length) : l.flatMap f ≠ [] := fun e => by
  have := rows_len hf l
  rw [e] at this
  have h2 : 1 * n ≤ l.length * n := Nat.mul_le_mul_right _ (by omega)
  simp only [List.length_nil] at this
  omega
end
section
variable {w0 w : World} {L : List Asrt} {x : Asrt} {a : Option Addr} {xs : List Value}
theorem St.oldRd (h : St w0 NoF L w) (hr : Rd w0 a xs) : Rd w a xs :=
  Rd.dep a xs w0 w (fun k hk => h.keep k (hr.live k hk) (fun hf => hf)) hr
theorem St.oldApart (h : St w0 NoF L w) (hx : x ∈ L) (he : x.excl = true) (hr : Rd w0 a xs) : ∀ y, rdFoot a xs y → ¬ x.foot y := fun y hy hf => h.mine x hx he y hf (hr.live y hy)
theorem DW.castL {P : Program} {n : Nat} {ops : List Oper} {Q : Post} {done : List Nat} {S : World → Prop} {f : Frm} {w0 : World} {F : Nat → Prop} {L L' : List Asrt} (e : L = L') (h : DW P n ops Q done S f (St w0 F L')) : DW P n ops Q done S f (St w0 F L) := e ▸ h
end
end Go.Hb

namespace Go.Hb
section
variable {α : Type} {f : α → Asrt} {w0 w : World} {F : Nat → Prop} {R : List Asrt} {x : α} {l : List α}
end
end Go.Hb

namespace Go.Hb
section
variable {w0 w : World} {F : Nat → Prop} {L L' : List Asrt}
def ownsAt (w : World) (E : TypeId) (sz : Nat) (v : Value) (n : Nat) (xs : List Value) : Prop :=
  xs.length = n * sz ∧ ((v = .slice none 0 0 ∧ n = 0) ∨
   ∃ g o cap cur, v = .slice (some ⟨g, o, none⟩) n cap ∧ w.heap[g]? = some (.cells cur E (0, 0)) ∧ n ≤ cap ∧ cap ≤ maxLen ∧ o + cap * sz ≤ cur.size ∧ (cur.toList.drop o).take (n * sz) = xs)
def odl (v : Value) (E : TypeId) (sz n : Nat) (xs : List Value) : Asrt := .ex (fun k => v.ownBlock = some k) (fun w => ownsAt w E sz v n xs)
theorem odl.dep (v : Value) (E : TypeId) (sz n : Nat) (xs : List Value) : (odl v E sz n xs).dep := by
  intro w w' hk h
  refine ⟨h.1, ?_⟩
  rcases h.2 with hn | ⟨g, o, cap, cur, rfl, hg, r⟩
  · exact .inl hn
  · refine .inr ⟨g, o, cap, cur, rfl, ?_, r⟩
    rw [hk g rfl]; exact hg
end
section
variable {P : Program} {f : Frm} {T T' : TypeId} {s x y : Operand} {v : Value} {w0 : World} {F : Nat → Prop} {L : List Asrt} {C : World → Prop}
variable {n : Nat} {ops rest : List Oper} {Q : Post} {p : String} {af : Array Edge} {d : Nat}
end
section
variable {α : Type} {f : α → Asrt} {w0 w : World} {F : Nat → Prop} {R : List Asrt} {x : α} {l r : List α}
end
theorem splice_take {D vs : List Value} {i N : Nat} (h : i + vs.length ≤ N) (hN : N ≤ D.length) : (splice D i vs).take N = splice (D.take N) i vs := by
  have e2 : splice D i vs = splice (D.take N) i vs ++ D.drop N := by
    have e3 : D = D.take N ++ D.drop N := (List.take_append_drop N D).symm
    have hl : (D.take N).length = N := by simp; omega
    conv => lhs; rw [e3]
    unfold splice
    rw [List.take_append_of_le_length (by omega), List.drop_append_of_le_length (by omega)]
    simp
  have e4 : (splice (D.take N) i vs).length = N := by simp [splice]; omega
  rw [e2, List.take_append_of_le_length (by omega), List.take_of_length_le (by omega)]
theorem splice_drop {D vs : List Value} {o i : Nat} (h : o + i ≤ D.length) : (splice D (o + i) vs).drop o = splice (D.drop o) i vs := by
  unfold splice
  rw [List.append_assoc, List.drop_append, List.drop_take, List.length_take, show o - min (o + i) D.length = 0 by omega, List.drop_zero, show o + i - o = i by omega, List.drop_drop, List.append_assoc, Nat.add_assoc]
theorem Stores.odl {P : Program} {T : TypeId} {q b o i n c : Nat} {v : Value} {vs xs : List Value} {E : TypeId} {sz : Nat} (h : Sz P T q) (hv : v.cells = vs.toArray) (h1 : vs.all Value.oneCell' = true) (hm : vs.length = q) (hb : i + vs.length ≤ xs.length) :
    Stores P T ⟨b, o + i, none⟩ v (odl (.slice (some ⟨b, o, none⟩) n c) E sz n xs) (odl (.slice (some ⟨b, o, none⟩) n c) E sz n (splice xs i vs)) := by
  intro w hw
  have hw' : ownsAt w E sz (.slice (some ⟨b, o, none⟩) n c) n xs := hw
  obtain ⟨hl, hr⟩ := hw'
  rcases hr with ⟨he, _⟩ | ⟨g, o', cap, cur, he, hg, hnc, hcm, hcs, htake⟩
  · cases he
  simp only [Value.slice.injEq, Option.some.injEq, Addr.mk.injEq, and_true, true_and] at he
  obtain ⟨⟨rfl, rfl⟩, rfl⟩ := he
  have hmul : n * sz ≤ c * sz := Nat.mul_le_mul_right _ hnc
  have hg' : w.heap[b]? = some (.cells cur.toList.toArray E (0, 0)) := by simpa using hg
  have hsz : cur.toList.length = cur.size := Array.length_toList
  have hrun := run_storeVar (P := P) h w b (o + i) v vs cur.toList E hv hm hg' (by omega) h1
  refine ⟨_, hrun, ⟨Keep.setRow w b _ _ E hg' rfl, ?_, fun k hk => .inl hk⟩⟩
  refine ⟨by simp [splice]; omega, .inr ⟨b, o, c, (splice cur.toList (o + i) vs).toArray, rfl, setRow_heap w b _ _ E (0, 0) hg', hnc, hcm, ?_, ?_⟩⟩
  · simp [splice]; omega
  · show ((splice cur.toList (o + i) vs).drop o).take (n * sz) = splice xs i vs
    rw [splice_drop (by omega), splice_take (by omega) (by simp; omega), htake]
end Go.Hb

namespace Go.Hb
set_option linter.unusedSimpArgs false
set_option linter.unusedVariables false
section
variable {P : Program} {f : Frm} {T Tn T' T'' : TypeId} {s x y : Operand} {v : Value} {w0 : World} {F : Nat → Prop} {L : List Asrt} {C : World → Prop}
variable {n : Nat} {ops rest : List Oper} {Q : Post} {p : String} {af : Array Edge} {d : Nat}

theorem Ev.cap {E : TypeId} {sz by_ l c : Nat} {a : Option Addr} [h : SliceOf P T E sz by_] (hx : f.ev x = .slice a l c) : Ev P C f (.call ⟨.builtin .cap, [x].toArray, [T].toArray⟩) T' (.int .i64 c) := fun w _ d p af g => by
  simp [execOp, resolve, invoke, builtin, Builtin.cap_, hx, run_underlying h.und, goInt]
theorem run_grow {E : TypeId} {sz by_ : Nat} (h : SliceOf P T E sz by_) (htn : P.underlying Tn = some (.int .i64)) (w : World) (ty : TypeId) {k c m : Nat} {a : Option Addr} {xs : List Value} (hown : w.ownsRow 0 E sz (.slice a k c) k xs)
    (hm : 0 < m) (hbytes : (c + m) * by_ ≤ 140737488355328) (hmax : c + m ≤ maxLen) :
    ∃ c' w', (Builtin.append_ #[T, Tn] ty #[.slice a c c, .int .i64 (m : Int)]).run P w = .ok (.slice (some ⟨w.heap.size, 0, none⟩) (c + m) c') w' ∧ k ≤ c' ∧ w'.ownsRow 0 E sz (.slice (some ⟨w.heap.size, 0, none⟩) k c') k xs ∧ w.grownBy w' none ∧ w.heap.size < w'.heap.size := by
  have hinf := h.inf
  obtain ⟨z, hz, hzs⟩ := h.zero
  cases hi : P.info? E with
  | none => simp [hi] at hinf
  | some inf =>
    simp only [hi, Option.map_some, Option.some.injEq, Prod.mk.injEq] at hinf
    simp only [hi, Option.bind_some] at hz
    obtain ⟨rfl, rfl⟩ := hinf
    obtain ⟨cs, hcl, hkc, htake, hold⟩ : ∃ cs : List Value, cs.length = c * inf.size ∧ k ≤ c ∧ cs.take (k * inf.size) = xs ∧ (Builtin.firstCells inf.size c (.slice a c c)).run P w.drew = .ok cs.toArray w.drew := by
      rcases hown.2 with ⟨hv, rfl⟩ | ⟨g, cap, cur, hv, _, hg, hnc, hcm, hcs, htake⟩
      · simp only [Value.slice.injEq] at hv
        obtain ⟨rfl, _, rfl⟩ := hv
        have hx0 : xs = [] := List.eq_nil_of_length_eq_zero (by simpa using hown.1)
        exact ⟨[], by simp, Nat.le_refl _, by simp [hx0], run_firstCells_none w.drew inf.size 0 0 0⟩
      · simp only [Value.slice.injEq] at hv
        obtain ⟨rfl, _, rfl⟩ := hv
        refine ⟨cur.toList, by simpa using hcs, hnc, htake, ?_⟩
        refine run_firstCells_some w.drew inf.size c ⟨g, 0, none⟩ c c cur.toList (by simpa using hcs) fun j v hj => ?_
        rw [addr_add, Nat.zero_add]
        rw [cell_own (show (w.drew).heap[g]? = some (.cells cur E (0, 0)) from hg)]
        simpa using hj
    have hfit := growslice_fits (need := c + m) (old := c) (bytes := inf.bytes) (by omega) hbytes
    have hmb : m * inf.bytes ≤ 281474976710656 := by
      have h1 : m * inf.bytes ≤ (c + m) * inf.bytes := Nat.mul_le_mul_right _ (by omega)
      omega
    have hr := Lib.run_append_grow_zeros (P := P) w T Tn ty E inf z .i64 .i64 h.und htn hi hz a c c cs hold m hm h.pos (by omega) (by unfold maxLen at hmax; omega) hmb hfit
    have hge := grownCap_ge w (c + m) c E
    have hcm : grownCap w (c + m) c E ≤ maxLen := grownCap_le_maxLen w (c + m) c E hmax
    refine ⟨_, _, hr, by omega, ⟨hown.1, .inr ⟨w.heap.size, _, _, rfl, Nat.zero_le _, heap_alloc_new w.drew _, by omega, hcm, ?_, ?_⟩⟩, ⟨rfl, rfl, rfl, by simp, fun k hk _ => by first | exact heap_alloc_old w.drew _ hk | exact heap_alloc_old w.drew _ k hk⟩, by simp⟩
    · simp only [Array.size_append, List.size_toArray, size_zeroCells, hzs, hcl, ← Nat.add_mul]
      congr 1
      omega
    · simp only [Array.toList_append, List.append_assoc]
      rw [List.take_append_of_le_length (by rw [hcl]; exact Nat.mul_le_mul_right _ hkc)]
      exact htake
theorem LR.grow {E : TypeId} {sz by_ k c m : Nat} {a : Option Addr} {xs : List Value} {L' : Nat → Nat → List Asrt} [h : SliceOf P T E sz by_] [hn : IntT P Tn .i64]
    (hs : f.ev s = .slice a c c) (hx : f.ev x = .int .i64 (m : Int)) (hsel : ∀ b' c', Sel L (osl (.slice a k c) E sz k xs) (osl (.slice (some ⟨b', 0, none⟩) k c') E sz k xs) (L' b' c'))
    (hm : 0 < m) (hbytes : (c + m) * by_ ≤ 140737488355328) (hmax : c + m ≤ maxLen) (hd : Nat.blt d n = true)
    (kk : ∀ b' c', k ≤ c' → LR false P n ops rest Q (upd f d (.slice (some ⟨b', 0, none⟩) (c + m) c')) (St w0 F (L' b' c'))) :
    LR false P n ops (⟨some d, .call ⟨.builtin .append, [s, x].toArray, [T, Tn].toArray⟩, T', p, af, none⟩ :: rest) Q f (St w0 F L) := by
  intro w hw b hb
  refine wpList_plain rfl fun K hK => ?_
  have hown : w.ownsRow 0 E sz (.slice a k c) k xs := hw.holds _ (hsel 0 0).mem
  obtain ⟨c', w', hr, hkc, ho, hg, hnew⟩ := run_grow (P := P) h hn.und w T' hown hm hbytes hmax
  have hr' : (execOp f.ev ⟨some d, .call ⟨.builtin .append, [s, x].toArray, [T, Tn].toArray⟩, T', p, af, none⟩).run P w = .ok (.value (.slice (some ⟨w.heap.size, 0, none⟩) (c + m) c')) w' := by
    simp only [execOp, resolve, invoke, builtin, Sem.run_bind, Sem.run_pure, Result.andThen_ok, List.map_toArray, List.map_cons, List.map_nil, hs, hx, hr]
  rw [← hb.eval] at hr'
  simp only [Oper.wp, hr', Oper.upon_value]
  refine hK _ _ (kk _ c' hkc w' ?_ _ (hb.put _ hd))
  refine hw.turn (hsel w.heap.size c') rfl (keep_of_grown hg fun k hk => by cases hk) ho (fun k hk => ?_) (osl.dep _ _ _ _ _)
  simp only [osl, Asrt.foot, Value.ownBlock, Option.some.injEq] at hk
  exact .inr ⟨by omega, by omega⟩
theorem wrap_u32 {a : Nat} (h : a < 4294967296) : IntKind.u32.wrap (a : Int) = a := by
  have e1 : IntKind.u32.bits = 32 := rfl
  have e2 : IntKind.u32.signed = false := rfl
  unfold IntKind.wrap
  rw [e1, e2]
  simp only [Bool.false_and, Bool.false_eq_true, if_false]
  omega
theorem ofInt_U (X : BitVec 32) : BitVec.ofInt 32 (U32 X) = X := by
  refine BitVec.eq_of_toNat_eq ?_
  rw [BitVec.toNat_ofInt]
  have := X.isLt
  unfold U32
  omega
theorem xor_U (X Y : BitVec 32) : xorI .u32 (U32 X) (U32 Y) = U32 (X ^^^ Y) := by
  unfold xorI
  rw [show IntKind.u32.bits = 32 from rfl, ofInt_U, ofInt_U]
  exact wrap_u32 (X ^^^ Y).isLt
theorem shr_U (X : BitVec 32) (k : Nat) (hk : k ≤ 32) : (U32 X).fdiv (2 ^ (min k 32)) = U32 (X >>> k) := by
  rw [show min k 32 = k by omega, Int.fdiv_eq_ediv_of_nonneg _ (by exact Int.le_of_lt (Int.pow_pos (by decide)))]
  unfold U32
  rw [BitVec.toNat_ushiftRight, Nat.shiftRight_eq_div_pow]
  rw [Int.natCast_ediv, Int.natCast_pow]
  rfl
theorem low_U (X : BitVec 32) : andI .u32 (U32 X) 1 = if X.getLsbD 0 then 1 else 0 := by
  unfold andI
  rw [show IntKind.u32.bits = 32 from rfl, ofInt_U]
  have e : X &&& BitVec.ofInt 32 1 = if X.getLsbD 0 then 1#32 else 0#32 := by
    rw [show BitVec.ofInt 32 1 = BitVec.twoPow 32 0 from rfl, BitVec.and_twoPow]
    rfl
  rw [e]
  split <;> rfl
theorem Ev.xorU {X Y : BitVec 32} (hx : f.ev x = .int .u32 (U32 X)) (hy : f.ev y = .int .u32 (U32 Y)) : Ev P C f (.binOp .xor T' x y T'') T (.int .u32 (U32 (X ^^^ Y))) := xor_U X Y ▸ Ev.xor hx hy
theorem Ev.shrU {X : BitVec 32} {q : IntKind} {k : Int} {j : Nat} (hx : f.ev x = .int .u32 (U32 X)) (hy : f.ev y = .int q k) (hj : k = (j : Int)) (hk : j ≤ 32) : Ev P C f (.binOp .shr T' x y T'') T (.int .u32 (U32 (X >>> j))) := by
  subst hj
  rw [← shr_U X j hk]
  exact Ev.shr hx hy (by omega)
theorem Ev.lowU {X : BitVec 32} {b : Bool} (hb : X.getLsbD 0 = b) (hx : f.ev x = .int .u32 (U32 X)) (hy : f.ev y = .int .u32 1) : Ev P C f (.binOp .and T' x y T'') T (.int .u32 (if b then 1 else 0)) := by
  have h := low_U X
  rw [hb] at h
  exact h ▸ Ev.and hx hy
theorem Ev.notU {X : BitVec 32} (hx : f.ev x = .int .u32 (U32 X)) : Ev P C f (.unOp .xor T' x) T (.int .u32 (U32 (~~~ X))) := by
  have h : xorI .u32 4294967295 (U32 X) = U32 (~~~ X) := by
    have h1 := xor_U (BitVec.allOnes 32) X
    rw [show U32 (BitVec.allOnes 32) = 4294967295 from rfl] at h1
    rw [h1, BitVec.allOnes_xor]
  intro w _ d p af g
  have e : (if IntKind.u32.signed = true then (-1 : Int) else IntKind.u32.max) = 4294967295 := by decide
  simp only [execOp, hx, Op.unary, e, Op.intBits]
  rw [← h]
  rfl
theorem byte_U (X : BitVec 32) : IntKind.u8.wrap (U32 X) = (X.toNat : Int) % 256 := by
  have e1 : IntKind.u8.bits = 8 := rfl
  have e2 : IntKind.u8.signed = false := rfl
  unfold IntKind.wrap
  rw [e1, e2]
  simp only [Bool.false_and, Bool.false_eq_true, if_false]
  rfl
theorem byte_K (X : BitVec 32) (j : Nat) : IntKind.u8.wrap (U32 (X >>> j)) = byteK X j := byte_U _
theorem tab_idx (X : BitVec 32) {c : Int} (h0 : 0 ≤ c) (h1 : c < 256) : xorI .u8 ((X.toNat : Int) % 256) c = (((X ^^^ B32 c) &&& 255#32).toNat : Int) := by
  unfold xorI
  rw [show IntKind.u8.bits = 8 from rfl]
  have e : (BitVec.ofInt 8 ((X.toNat : Int) % 256) ^^^ BitVec.ofInt 8 c).toNat = ((X ^^^ B32 c) &&& 255#32).toNat := by
    rw [BitVec.toNat_xor, BitVec.toNat_ofInt, BitVec.toNat_ofInt, BitVec.toNat_and, BitVec.toNat_xor, BitVec.toNat_ofInt]
    have h2 : ((((X.toNat : Int) % 256) % ((2 ^ 8 : Nat) : Int)).toNat) = X.toNat % 2 ^ 8 := by omega
    have h3 : ((c % ((2 ^ 8 : Nat) : Int)).toNat) = c.toNat := by omega
    have h4 : ((c % ((2 ^ 32 : Nat) : Int)).toNat) = c.toNat := by omega
    rw [h2, h3, h4, show (255#32).toNat = 2 ^ 8 - 1 from rfl, Nat.and_two_pow_sub_one_eq_mod, Nat.xor_mod_two_pow]
    congr 1
    exact (Nat.mod_eq_of_lt (by omega)).symm
  rw [e]
  have h5 : ((X ^^^ B32 c) &&& 255#32).toNat < 256 := by
    rw [BitVec.toNat_and]
    exact Nat.lt_of_le_of_lt Nat.and_le_right (by decide)
  unfold IntKind.wrap
  rw [show IntKind.u8.bits = 8 from rfl, show IntKind.u8.signed = false from rfl]
  simp only [Bool.false_and, Bool.false_eq_true, if_false]
  omega
theorem crcS_tab (X : BitVec 32) {c : Int} (h0 : 0 ≤ c) (h1 : c < 256) : crcS X c = crcN 8 (BitVec.ofNat 32 ((X ^^^ B32 c) &&& 255#32).toNat) ^^^ (X >>> 8) := by
  unfold crcS
  rw [crc_split, BitVec.ofNat_toNat, BitVec.setWidth_eq]
  congr 1
  refine BitVec.eq_of_getLsbD_eq fun i hi => ?_
  rw [BitVec.getLsbD_ushiftRight, BitVec.getLsbD_ushiftRight, BitVec.getLsbD_xor]
  have e : (B32 c).getLsbD (8 + i) = false := by
    rw [← BitVec.testBit_toNat, BitVec.toNat_ofInt]
    refine Nat.testBit_lt_two_pow ?_
    have h2 : (c % ((2 ^ 32 : Nat) : Int)).toNat < 2 ^ 8 := by omega
    exact Nat.lt_of_lt_of_le h2 (Nat.pow_le_pow_right (by omega) (by omega))
  rw [e, Bool.xor_false]
end
end Go.Hb

namespace Go.Proofs.YtkolmkdbjagfcaaGreat
open Go.Hb
attribute [local irreducible] LR CW At Ev thn blk finK noG again CallsTo DW QL dnext TW DP
set_option maxRecDepth 100000

theorem zero_of {P : Program} {T : TypeId} {v : Value} (h : (P.info? T).bind (·.zero) = some v) : ∀ w, (zeroValue T).run P w = .ok v w := by
  intro w
  cases hi : P.info? T with
  | none => simp [hi] at h
  | some inf =>
    simp only [hi, Option.bind_some] at h
    simp [zeroValue, typeInfo, hi, h]
instance : ZeroOf Tryz.prog 148 (List.replicate 256 (.int .u32 0)) := ⟨⟨_, zero_of (v := .agg (List.replicate 256 (.int .u32 0)).toArray) (by kernel_rfl), rfl⟩⟩
def crcV (i : Nat) : Value := .int .u32 (U32 (crcN 8 (BitVec.ofNat 32 i)))
def tabL (i : Nat) : List Value := (List.range 256).map fun j => if j < i then crcV j else .int .u32 0
def tabV : List Value := (List.range 256).map crcV
theorem tabL_len (i : Nat) : (tabL i).length = 256 := by unfold tabL; rw [List.length_map, List.length_range]
theorem tabL_0 : tabL 0 = List.replicate 256 (.int .u32 0) := by
  unfold tabL
  rw [List.map_congr_left (g := fun _ => Value.int .u32 0) (fun j _ => by rw [if_neg (by omega)]), List.map_const', List.length_range]
theorem tabL_all : tabL 256 = tabV := by
  unfold tabL tabV
  exact List.map_congr_left fun j hj => by rw [if_pos (by simpa using hj)]
theorem tabL_set {i : Nat} (h : i < 256) : splice (tabL i) i [crcV i] = tabL (i + 1) := by
  have e : splice (tabL i) i [crcV i] = (tabL i).set i (crcV i) := by
    rw [List.set_eq_take_append_cons_drop, if_pos (by rw [tabL_len]; exact h)]
    unfold splice
    simp
  rw [e]
  refine List.ext_getElem? fun j => ?_
  have hg : ∀ k j, j < 256 → (tabL k)[j]? = some (if j < k then crcV j else .int .u32 0) := fun k j hj => by
    unfold tabL
    rw [List.getElem?_map, List.getElem?_range hj]
    rfl
  by_cases hj : j < 256
  · rw [hg _ _ hj, List.getElem?_set]
    by_cases hij : i = j
    · subst hij; rw [if_pos rfl, if_pos (by rw [tabL_len]; exact h), if_pos (by omega)]
    · rw [if_neg hij, hg _ _ hj]
      by_cases hlt : j < i
      · rw [if_pos hlt, if_pos (by omega)]
      · rw [if_neg hlt, if_neg (by omega)]
  · rw [List.getElem?_eq_none (by rw [List.length_set, tabL_len]; omega), List.getElem?_eq_none (by rw [tabL_len]; omega)]
theorem tabV_at {j : Nat} (h : j < 256) : tabV[j]? = some (crcV j) := by
  unfold tabV
  rw [List.getElem?_map, List.getElem?_range h]
  rfl
set_option maxHeartbeats 4000000 in
theorem p100 (w : World) : CallsTo Tryz.prog 104 [] w fun v w' => v = .agg tabV.toArray ∧ Grew w w' := by
  refine go_in (n := 26) (St.refl _ NoF) Tryz.func104 rfl rfl ?_
  repeat'(first|refine kv' ?_|apply jJ|refine jE' ?_|refine jp' ?_|(apply jc;kernel_rfl)|refine kg' ?_|refine kG' ?_|refine kB' fun _=>?_|refine kA' fun _=>?_|refine kK' fun _=>?_|refine kU' ?_|((first|refine kR' ?_ ?_|refine kQ' ?_ ?_);all_goals(intro hc;try simp only[hcs]at hc;try(exfalso;first|contradiction|omega))))
  rename_i b0 b1
  apply CW.loop [2, 3, 4, 5, 6, 7, 8, 9, 10, 11, 12, 13, 14, 15, 16, 17, 18, 19, 20, 21, 22, 23, 24] (fun i : Nat => i ≤ 256) (fun i => [(5, Value.int .i64 (i : Int))])
    (fun i => St w NoF [.own b1 (.cells (tabL i).toArray 148 (0, 0)), .own b0 (.cells (List.replicate 256 (.int .u32 0)).toArray 148 (0, 0))]) (fun i => 256 - i)
  · intro w' hw'
    refine ⟨0, by simp, ⟨rfl, trivial⟩, ?_⟩
    rw [tabL_0]
    exact hw'
  intro i g1 hi
  by_cases hlt : i < 256
  · repeat'(first|(apply LR.ev; (· exact (show Ev _ _ _ _ _ (.int .u32 (U32 (BitVec.ofNat 32 i))) from by rw [show U32 (BitVec.ofNat 32 i) = IntKind.u32.wrap (i : Int) from by rw [wrap_u32 (by omega)]; show ((i % 2 ^ 32 : Nat) : Int) = i; omega]; exact Ev.conv rfl)); (· exact rfl))|refine kv' ?_|apply jJ|refine jE' ?_|refine jp' ?_|(apply jc;kernel_rfl)|refine kg' ?_|refine kG' ?_|refine kB' fun _=>?_|refine kA' fun _=>?_|refine kK' fun _=>?_|refine kU' ?_|((first|refine kR' ?_ ?_|refine kQ' ?_ ?_);all_goals(intro hc;try simp only[hcs]at hc;try(exfalso;first|contradiction|omega))))
    apply CW.loop [3, 4, 10, 11, 12, 13, 14, 15, 16, 17, 18, 19, 20] (fun s : Nat × BitVec 32 => s.1 ≤ 8 ∧ crcN (8 - s.1) s.2 = crcN 8 (BitVec.ofNat 32 i)) (fun s => [(10, Value.int .i64 (s.1 : Int)), (3, Value.int .u32 (U32 s.2))])
      (fun s => St w NoF [.own b1 (.cells (tabL i).toArray 148 (0, 0)), .own b0 (.cells (List.replicate 256 (.int .u32 0)).toArray 148 (0, 0))]) (fun s => 8 - s.1)
    · intro w' hw'
      exact ⟨(0, BitVec.ofNat 32 i), ⟨by simp, rfl⟩, ⟨rfl, rfl, trivial⟩, hw'⟩
    rintro ⟨k, X⟩ g2 ⟨hk, hX⟩
    simp only at hk hX ⊢
    by_cases hlk : k < 8
    · have h8 : crcN (8 - k) X = crcN (8 - (k + 1)) (crcB X) := by rw [show 8 - k = (8 - (k + 1)) + 1 by omega]; rfl
      cases hl : X.getLsbD 0
      · have hB : crcB X = X >>> 1 := by unfold crcB; rw [hl]; rfl
        repeat'(first|(apply LR.ev; (· first | exact Ev.lowU hl rfl rfl | exact Ev.shrU (X := X) (j := 1) rfl rfl rfl (by omega)); (· exact rfl))|refine kv' ?_|apply jJ|refine jE' ?_|refine jp' ?_|(apply jc;kernel_rfl)|refine kg' ?_|refine kG' ?_|refine kB' fun _=>?_|refine kA' fun _=>?_|refine kK' fun _=>?_|refine kU' ?_|(apply addX;(iterate 2 exact rfl);(iterate 2(first|omega|(dsimp only;omega)));exact rfl)|((first|refine kR' ?_ ?_|refine kQ' ?_ ?_);all_goals(intro hc;try simp only[hcs]at hc;try(exfalso;first|contradiction|omega))))
        refine At.again (k + 1, X >>> 1) ⟨by show k + 1 ≤ 8; omega, by rw [← hX, h8, hB]⟩ ?_ ⟨rfl, rfl, trivial⟩ (fun w' hw' => hw') (by show 8 - (k + 1) < 8 - k; omega)
        (repeat (first | exact Out.refl _ _ | exact Out.mix | (apply Out.upd; (· exact rfl)) | (apply Out.updL; (· exact rfl)) | (apply Out.mixs; (· exact rfl))))
      · have hB : crcB X = (X >>> 1) ^^^ polC := by unfold crcB; rw [hl]; rfl
        repeat'(first|(apply LR.ev; (· first | exact Ev.lowU hl rfl rfl | exact Ev.shrU (X := X) (j := 1) rfl rfl rfl (by omega) | exact Ev.xorU (X := X >>> 1) (Y := polC) rfl rfl); (· exact rfl))|refine kv' ?_|apply jJ|refine jE' ?_|refine jp' ?_|(apply jc;kernel_rfl)|refine kg' ?_|refine kG' ?_|refine kB' fun _=>?_|refine kA' fun _=>?_|refine kK' fun _=>?_|refine kU' ?_|(apply addX;(iterate 2 exact rfl);(iterate 2(first|omega|(dsimp only;omega)));exact rfl)|((first|refine kR' ?_ ?_|refine kQ' ?_ ?_);all_goals(intro hc;try simp only[hcs]at hc;try(exfalso;first|contradiction|omega))))
        refine At.again (k + 1, (X >>> 1) ^^^ polC) ⟨by show k + 1 ≤ 8; omega, by rw [← hX, h8, hB]⟩ ?_ ⟨rfl, rfl, trivial⟩ (fun w' hw' => hw') (by show 8 - (k + 1) < 8 - k; omega)
        (repeat (first | exact Out.refl _ _ | exact Out.mix | (apply Out.upd; (· exact rfl)) | (apply Out.updL; (· exact rfl)) | (apply Out.mixs; (· exact rfl))))
    · have hk8 : k = 8 := by omega
      subst hk8
      have hXe : X = crcN 8 (BitVec.ofNat 32 i) := hX
      subst hXe
      repeat'(first|refine kv' ?_|apply jJ|refine jE' ?_|refine jp' ?_|(apply jc;kernel_rfl)|refine kg' ?_|refine kG' ?_|refine kB' fun _=>?_|refine kA' fun _=>?_|refine kK' fun _=>?_|refine kU' ?_|(apply LR.ev; (· apply Ev.indexArr; (· exact rfl); (· exact rfl); (· first | decide | omega | (dsimp only; omega)); (· first | decide | omega | (dsimp only; omega))); (· exact rfl))|(apply addX;(iterate 2 exact rfl);(iterate 2(first|omega|(dsimp only;omega)));exact rfl)|((first|refine kR' ?_ ?_|refine kQ' ?_ ?_);all_goals(intro hc;try simp only[hcs]at hc;try(exfalso;first|contradiction|omega))))
      apply kS
      · exact rfl
      · exact rfl
      · exact sH _ _ _
      · rw [tabL_len]
        simp [Value.oneCell']
        omega
      repeat'(first|refine kv' ?_|apply jJ|refine jE' ?_|refine jp' ?_|(apply jc;kernel_rfl)|refine kg' ?_|refine kG' ?_|refine kB' fun _=>?_|refine kA' fun _=>?_|refine kK' fun _=>?_|refine kU' ?_|(apply addX;(iterate 2 exact rfl);(iterate 2(first|omega|(dsimp only;omega)));exact rfl)|((first|refine kR' ?_ ?_|refine kQ' ?_ ?_);all_goals(intro hc;try simp only[hcs]at hc;try(exfalso;first|contradiction|omega))))
      refine At.again (i + 1) (by omega) ?_ ⟨rfl, trivial⟩ (fun w' hw' => ?_) (by omega)
      · (repeat (first | exact Out.refl _ _ | exact Out.mix | (apply Out.upd; (· exact rfl)) | (apply Out.updL; (· exact rfl)) | (apply Out.mixs; (· exact rfl))))
      · rw [← tabL_set hlt]
        rw [show 0 + (i : Int).toNat * 1 = i by omega] at hw'
        exact hw'
  · have hie : i = 256 := by omega
    subst hie
    rw [tabL_all]
    repeat'(first|refine kv' ?_|apply jJ|refine jE' ?_|refine jp' ?_|(apply jc;kernel_rfl)|refine kg' ?_|refine kG' ?_|refine kB' fun _=>?_|refine kA' fun _=>?_|refine kK' fun _=>?_|refine kU' ?_|((first|refine kR' ?_ ?_|refine kQ' ?_ ?_);all_goals(intro hc;try simp only[hcs]at hc;try(exfalso;first|contradiction|omega))))
    (apply ret1c; (· exact rfl); (· exact inferInstance); (· exact rfl); (· (repeat (first | exact List.Mem.head _ | apply List.Mem.tail))); (· exact rfl); intro w' hS)
    exact ⟨rfl, hS.toKeep⟩
set_option maxHeartbeats 4000000 in
theorem p70 (a : Option Addr) (c : Nat) (l : List Int) (w : World) (hr : Rd w a (bv l)) (hb : Byt l) (hm : l.length ≤ 140737488355328) :
    CallsTo Tryz.prog 73 [.slice a l.length c] w fun v w' => v = .int .u32 (U32 (crcL l)) ∧ Grew w w' := by
  refine go_in (n := 26) (St.rd1 hr) Tryz.func73 rfl rfl ?_
  repeat'(first|refine kv' ?_|apply jJ|refine jE' ?_|refine jp' ?_|(apply jc;kernel_rfl)|refine kg' ?_|refine kG' ?_|refine kB' fun _=>?_|refine kA' fun _=>?_|refine kK' fun _=>?_|refine kU' ?_|(apply kq; (· exact rfl); (· intro w1 h1; exact CallsTo.q (p100 w1) h1))|((first|refine kR' ?_ ?_|refine kQ' ?_ ?_);all_goals(intro hc;try simp only[hcs]at hc;try(exfalso;first|contradiction|omega))))
  rename_i bt
  apply CW.loop [4, 6, 10, 11, 12, 13, 14, 15, 16, 17, 18, 19, 20, 21, 22, 23] (fun i : Nat => i ≤ l.length) (fun i => [(10, Value.int .i64 (i : Int)), (4, Value.int .u32 (U32 (crcF 0xFFFFFFFF#32 (l.take i))))])
    (fun _ => St w NoF [.own bt (.cells tabV.toArray 148 (0, 0)), rdA a (bv l)]) (fun i => l.length - i)
  · intro w' hw'
    exact ⟨0, by simp, ⟨rfl, rfl, trivial⟩, hw'⟩
  intro i g1 hi
  by_cases hlt : i < l.length
  · obtain ⟨bg, og, rfl⟩ := hr.form (fun e => by have h2 := congrArg List.length e; simp only [bv, List.length_map, List.length_nil] at h2; omega)
    have hc := hb l[i] (List.getElem_mem hlt)
    have hsucc : crcF 0xFFFFFFFF#32 (l.take (i + 1)) = crcS (crcF 0xFFFFFFFF#32 (l.take i)) l[i] := by
      rw [List.take_add_one, List.getElem?_eq_getElem hlt, crcF_app]
      rfl
    obtain ⟨X, hX⟩ : ∃ X, crcF 0xFFFFFFFF#32 (l.take i) = X := ⟨_, rfl⟩
    rw [hX] at hsucc ⊢
    obtain ⟨J, hJ⟩ : ∃ J, ((X ^^^ B32 l[i]) &&& 255#32).toNat = J := ⟨_, rfl⟩
    have hJ256 : J < 256 := by
      rw [← hJ, BitVec.toNat_and]
      exact Nat.lt_of_le_of_lt Nat.and_le_right (by decide)
    have hidx := tab_idx X hc.1 hc.2
    rw [crcS_tab X hc.1 hc.2] at hsucc
    rw [hJ] at hidx hsucc
    have hcell : tabV[0 + (J : Int).toNat * 1]? = some (.int .u32 (U32 (crcN 8 (BitVec.ofNat 32 J)))) := by
      rw [show 0 + (J : Int).toNat * 1 = J by omega]
      exact tabV_at hJ256
    repeat'(first|(apply LR.ev; (· first | exact (show Ev _ _ _ _ _ (.int .u8 ((X.toNat : Int) % 256)) from by rw [← byte_U]; exact Ev.conv rfl) | exact (show Ev _ _ _ _ _ (.int .u8 (J : Int)) from by rw [← hidx]; exact Ev.xor rfl rfl) | exact Ev.shrU (X := X) (j := 8) rfl rfl rfl (by omega) | exact Ev.xorU (X := crcN 8 (BitVec.ofNat 32 J)) (Y := X >>> 8) rfl rfl | (apply Ev.load_own; (· exact rfl); (· (repeat (first | exact mH _ _ | apply mT))); (· exact hcell))); (· exact rfl))|refine kv' ?_|apply jJ|refine jE' ?_|refine jp' ?_|(apply jc;kernel_rfl)|refine kg' ?_|refine kG' ?_|refine kB' fun _=>?_|refine kA' fun _=>?_|refine kK' fun _=>?_|refine kU' ?_|(apply idxX;(iterate 2 exact rfl);(iterate 2(first|omega|(dsimp only;omega)));exact rfl)|(apply LR.ev; (· apply Ev.load_rd; (· exact rfl); (· repeat (first | exact mH _ _ | apply mT)); (· exact bv_at (l := l) (i := i) (by simp) hlt)); (· exact rfl))|(apply LR.ev; (· apply Ev.indexArr; (· exact rfl); (· exact rfl); (· first | decide | omega | (dsimp only; omega)); (· first | decide | omega | (dsimp only; omega))); (· exact rfl))|(apply addX;(iterate 2 exact rfl);(iterate 2(first|omega|(dsimp only;omega)));exact rfl)|((first|refine kR' ?_ ?_|refine kQ' ?_ ?_);all_goals(intro hc;try simp only[hcs]at hc;try(exfalso;first|contradiction|omega))))
    refine At.again (i + 1) (by omega) ?_ ⟨rfl, ?_, trivial⟩ (fun w' hw' => hw') (by omega)
    · (repeat (first | exact Out.refl _ _ | exact Out.mix | (apply Out.upd; (· exact rfl)) | (apply Out.updL; (· exact rfl)) | (apply Out.mixs; (· exact rfl))))
    · rw [hsucc]
      rfl
  · have hie : i = l.length := by omega
    subst hie
    rw [List.take_length]
    repeat'(first|(apply LR.ev; (· exact Ev.notU (X := crcF 0xFFFFFFFF#32 l) rfl); (· exact rfl))|refine kv' ?_|apply jJ|refine jE' ?_|refine jp' ?_|(apply jc;kernel_rfl)|refine kg' ?_|refine kG' ?_|refine kB' fun _=>?_|refine kA' fun _=>?_|refine kK' fun _=>?_|refine kU' ?_|((first|refine kR' ?_ ?_|refine kQ' ?_ ?_);all_goals(intro hc;try simp only[hcs]at hc;try(exfalso;first|contradiction|omega))))
    (apply ret1; (· exact rfl); intro w' hS)
    exact ⟨rfl, hS.toKeep⟩
end Go.Proofs.YtkolmkdbjagfcaaGreat

namespace Go.Hb

def Finds {κ : Type} (P : Program) (kt : TypeId) (enc : κ → Value) (l : List (κ × Value)) (es : List MapEntry) (a : κ) (w : World) : Prop :=
  ((Instr.findKey kt (enc a) es).run P w = .ok none w ∧ ∀ p ∈ l, p.1 ≠ a) ∨ ∃ j u, (Instr.findKey kt (enc a) es).run P w = .ok (some (j, u)) w ∧ l[j]? = some (a, u)
class KMap (P : Program) (T : TypeId) {κ : Type} (enc : κ → Value) (ok : κ → Prop) (z : outParam Value) : Prop where
  ex : ∃ kt et, P.underlying T = some (.map kt et) ∧ (∀ em a w, ok a → (Instr.checkKey em 10000 kt (enc a)).run P w = .ok () w) ∧
    (∀ (l : List (κ × Value)) (es : List MapEntry) a w, es.map (fun e => (e.key, e.val)) = l.map (fun p => (enc p.1, p.2)) → (∀ p ∈ l, ok p.1) → ok a → Finds P kt enc l es a w) ∧ ∀ w, (zeroValue et).run P w = .ok z w
def kmH {κ : Type} (enc : κ → Value) (b : Nat) (l : List (κ × Value)) (w : World) : Prop := ∃ es clock, w.heap[b]? = some (.map es clock) ∧ es.toList.map (fun e => (e.key, e.val)) = l.map (fun p => (enc p.1, p.2))
def kmap {κ : Type} (enc : κ → Value) (b : Nat) (l : List (κ × Value)) : Asrt := .ex (fun j => j = b) (kmH enc b l)
section
variable {κ : Type} {enc : κ → Value} {ok : κ → Prop}
theorem kmap.dep (b : Nat) (l : List (κ × Value)) : (kmap enc b l).dep := by
  intro w w' hk h
  obtain ⟨es, clock, hb, he⟩ := h
  exact ⟨es, clock, by rw [hk b rfl]; exact hb, he⟩
theorem kmap.live {b : Nat} {l : List (κ × Value)} {w : World} (h : kmH enc b l w) : ∀ j, (kmap enc b l).foot j → j < w.heap.size := by
  rintro j rfl
  obtain ⟨es, clock, hb, _⟩ := h
  exact (Array.getElem?_eq_some_iff.1 hb).1
variable {P : Program} {f : Frm} {T T' : TypeId} {x y z : Operand} {v zv : Value} {w0 : World} {F : Nat → Prop} {L L' : List Asrt}
variable {C : World → Prop} {n : Nat} {ops rest : List Oper} {Q : Post} {p : String} {af : Array Edge} {d : Nat}
end
end Go.Hb

namespace Go.Hb
section
variable {P : Program} {md : Region.Mode} {ops : Array Oper} {Q Q' : Exit → Act → World → Prop} {z : Nat}
theorem oper_only (hN : ∀ e a w, Q' e a w → e = .normal) {o : Oper} {a : Act} {w : World} {K K' : Act → World → Prop} (hk : ∀ a w, K a w → K' a w) (h : o.wp P a w K Q') : o.wp P a w K' Q := by
  unfold Oper.wp at *
  generalize (execOp a.eval o).run P w = r at *
  cases r with
  | ok nx w' =>
    cases nx <;> simp only [Oper.upon] at h ⊢
    case value => exact hk _ _ h
    case skip => exact hk _ _ h
    case defer => exact hk _ _ h
    case enter g args =>
      refine Calls.mono h fun e w'' he => ?_
      cases e with
      | returned u => exact hk _ _ he
      | panicked c => cases hN _ _ _ he
      | outgrown => obtain ⟨_, _, he⟩ := he; cases hN _ _ _ he
    case row => exact Rows.mono h (fun _ _ he => hk _ _ he)
  | halt x w' =>
    cases x <;> simp only [Oper.upon] at h ⊢
    case panic => cases hN _ _ _ h
theorem wpOp_only (hN : ∀ e a w, Q' e a w → e = .normal) {i : Nat} {a : Act} {w : World} {K K' : Act → World → Prop} (hk : ∀ a w, K a w → K' a w) (h : wpOp P ops Q' i K a w) : wpOp P ops Q i K' a w := by
  unfold wpOp at *
  cases ho : ops[i]? with
  | none => simp only [ho] at h; exact hk _ _ h
  | some o =>
    simp only [ho] at h ⊢
    split
    · rename_i hw
      rw [if_pos hw] at h
      rcases h with h | ⟨_, a', w', he⟩
      · exact .inl (oper_only hN hk h)
      · cases hN _ _ _ he
    · rename_i hw
      rw [if_neg hw] at h
      exact hk _ _ h
structure Sink (md : Region.Mode) (ops : Array Oper) (z : Nat) : Prop where
  deps : ∀ (j : Nat) (o : Oper), ops[j]? = some o → ∀ e ∈ o.after, Region.binds md e = true → e.on ≠ z ∧ e.on < j
  all : ∀ i, i < ops.size → i ≠ z → ∃ (j : Nat) (o : Oper), ops[j]? = some o ∧ ∃ e ∈ o.after, Region.binds md e = true ∧ e.on = i
  lt : z < ops.size
theorem getD_tf {listed : Array Bool} {i : Nat} (h : listed.getD i false = true) : listed.getD i true = true := by
  rcases Nat.lt_or_ge i listed.size with h' | h'
  · simp [h'] at h ⊢; exact h
  · simp [Array.getElem?_eq_none h'] at h
theorem getD_set_self {listed : Array Bool} {i : Nat} (h : i < listed.size) : (listed.setIfInBounds i true).getD i true = true := by simp [h]
def Closed (md : Region.Mode) (ops : Array Oper) (z : Nat) (listed : Array Bool) : Prop := ∀ (j : Nat) (o : Oper), ops[j]? = some o → j ≠ z → listed.getD j false = true → ∀ e ∈ o.after, Region.binds md e = true → listed.getD e.on false = true
theorem Sink.before (hs : Sink md ops z) {listed : Array Bool} (hc : Closed md ops z listed) (hz : z ∈ Region.ready md ops listed) : ∀ d k, ops.size - k ≤ d → k < ops.size → k ≠ z → listed.getD k false = true := by
  intro d
  induction d with
  | zero => intro k hd hk; omega
  | succ d ih =>
    intro k hd hk hkz
    obtain ⟨j, o, ho, e, he, hb, rfl⟩ := hs.all k hk hkz
    have hj : j < ops.size := (Array.getElem?_eq_some_iff.1 ho).1
    have hlt := (hs.deps j o ho e he hb).2
    by_cases hjz : j = z
    · subst hjz
      obtain ⟨_, o', ho', hd'⟩ := mem_ready.1 hz
      rw [ho] at ho'; cases ho'
      exact hd' e he hb
    · exact hc j o ho hjz (ih j (by omega) hj hjz) e he hb
theorem any_ready (hs : Sink md ops z) {listed : Array Bool} : ∀ i, i ≠ z → (i ∈ Region.ready md ops listed ↔ i ∈ Region.ready md ops (listed.setIfInBounds z true)) := by
  intro i hi
  rw [mem_ready, mem_ready]
  constructor
  · rintro ⟨h1, o, ho, h2⟩
    exact ⟨by rw [getD_set_ne true (Ne.symm hi)]; exact h1, o, ho, fun e he hb => getD_set_true (h2 e he hb)⟩
  · rintro ⟨h1, o, ho, h2⟩
    refine ⟨by rw [getD_set_ne true (Ne.symm hi)] at h1; exact h1, o, ho, fun e he hb => ?_⟩
    have := h2 e he hb
    rwa [getD_set_ne false (Ne.symm (hs.deps i o ho e he hb).1)] at this
theorem any_sink_end (hs : Sink md ops z) (hN : ∀ e a w, Q' e a w → e = .normal) (hK : ∀ a w, Q' .normal a w → wpOp P ops Q z (Q .normal) a w) {listed : Array Bool} {a : Act} {w : World} (hsz : listed.size = ops.size) (hlz : listed.getD z true = false)
    (hr : Region.ready md ops (listed.setIfInBounds z true) = []) (hq : Q' .normal a w) (fuel : Nat) : wpAny P md ops Q (fuel + 1) listed a w := by
  have hR := any_ready hs (listed := listed)
  have hall : ∀ k i, i < k → i < ops.size → i ≠ z → listed.getD i false = true := by
    intro k
    induction k with
    | zero => intro i hi; omega
    | succ k ih =>
      intro i hik hi hiz
      cases hx : listed.getD i false with
      | true => rfl
      | false =>
        have : i ∈ Region.ready md ops (listed.setIfInBounds z true) := by
          rw [← hR i hiz, mem_ready]
          have hi' : i < listed.size := hsz ▸ hi
          refine ⟨by simp [hi'] at hx ⊢; exact hx, ops[i], by simp [hi], fun e he hb => ?_⟩
          have hd := hs.deps i ops[i] (by simp [hi]) e he hb
          exact ih e.on (by omega) (by omega) hd.1
        rw [hr] at this; cases this
  have hz : z ∈ Region.ready md ops listed := by
    rw [mem_ready]
    refine ⟨hlz, ops[z]'hs.lt, by simp [hs.lt], fun e he hb => ?_⟩
    have hd := hs.deps z (ops[z]'hs.lt) (by simp [hs.lt]) e he hb
    exact hall ops.size e.on (by have := hs.lt; omega) (by have := hs.lt; omega) hd.1
  refine ⟨fun h0 => (by rw [h0] at hz; cases hz), fun i hi => ?_⟩
  have hiz : i = z := Classical.byContradiction fun hne => by
    have := (hR i hne).1 hi
    rw [hr] at this; cases this
  subst hiz
  refine wpOp_mono (fun a' w' hq' => ?_) (hK a w hq)
  cases fuel with
  | zero => exact ⟨hr, hq'⟩
  | succ f => exact ⟨fun _ => hq', by rw [hr]; simp⟩
theorem any_sink (hs : Sink md ops z) (hN : ∀ e a w, Q' e a w → e = .normal) (hK : ∀ a w, Q' .normal a w → wpOp P ops Q z (Q .normal) a w) : ∀ (fuel : Nat) (listed : Array Bool) (a : Act) (w : World), listed.size = ops.size → listed.getD z true = false → Closed md ops z listed →
    wpAny P md ops Q' fuel (listed.setIfInBounds z true) a w → wpAny P md ops Q (fuel + 1) listed a w := by
  intro fuel
  induction fuel with
  | zero =>
    intro listed a w hsz hlz hcl h
    exact any_sink_end hs hN hK hsz hlz h.1 h.2 0
  | succ fuel ih =>
    intro listed a w hsz hlz hcl h
    by_cases hr : Region.ready md ops (listed.setIfInBounds z true) = []
    · exact any_sink_end hs hN hK hsz hlz hr (h.1 hr) _
    · obtain ⟨j, hj⟩ := List.exists_mem_of_ne_nil _ hr
      have hjz : j ≠ z := by
        rintro rfl
        have := (mem_ready.1 hj).1
        rw [getD_set_self (hsz ▸ hs.lt)] at this
        cases this
      have hR := any_ready hs (listed := listed)
      refine ⟨fun h0 => ?_, fun i hi => ?_⟩
      · have := (hR j hjz).2 hj
        rw [h0] at this; cases this
      · have hiz : i ≠ z := by
          rintro rfl
          obtain ⟨hj1, oj, hoj, _⟩ := mem_ready.1 hj
          have hjlt : j < ops.size := (Array.getElem?_eq_some_iff.1 hoj).1
          have := getD_tf (hs.before hcl hi ops.size j (by omega) hjlt hjz)
          rw [getD_set_ne true (Ne.symm hjz)] at hj1
          rw [this] at hj1; cases hj1
        have hcl2 : Closed md ops z (listed.setIfInBounds i true) := by
          intro j o ho hjz hj e he hb
          by_cases hji : j = i
          · subst hji
            obtain ⟨_, o', ho', hd'⟩ := mem_ready.1 hi
            rw [ho] at ho'; cases ho'
            exact getD_set_true (hd' e he hb)
          · rw [getD_set_ne false (Ne.symm hji)] at hj
            exact getD_set_true (hcl j o ho hjz hj e he hb)
        refine wpOp_only hN (fun a' w' h' => ?_) (h.2 i ((hR i hiz).1 hi))
        refine ih _ a' w' (by simpa using hsz) (by rw [getD_set_ne true hiz]; exact hlz) hcl2 ?_
        have e : (listed.setIfInBounds i true).setIfInBounds z true = (listed.setIfInBounds z true).setIfInBounds i true := by
          exact Array.setIfInBounds_comm true true hiz
        rw [e]; exact h'
def sinkB (ops : List Oper) (z : Nat) : Bool :=
  Nat.blt z ops.length && (List.range ops.length).all fun j => match ops[j]? with
    | some o => (o.after.all fun e => !Region.binds .any e || (!Nat.beq e.on z && Nat.blt e.on j)) && (Nat.beq j z || (List.range ops.length).any fun k => Region.waitsFor .any ops.toArray k j)
    | none => false
theorem sinkB_sound {ops : List Oper} (h : sinkB ops z = true) : Sink .any ops.toArray z := by
  unfold sinkB at h
  simp only [Bool.and_eq_true] at h
  obtain ⟨h1, h2⟩ := h
  have key : ∀ j o, ops[j]? = some o → (∀ e ∈ o.after, Region.binds .any e = true → e.on ≠ z ∧ e.on < j) ∧ (j = z ∨ ∃ k, Region.waitsFor .any ops.toArray k j = true) := by
    intro j o ho
    have hj : j < ops.length := (List.getElem?_eq_some_iff.1 ho).1
    have := List.all_eq_true.1 h2 j (List.mem_range.2 hj)
    rw [ho] at this
    simp only [Bool.and_eq_true, Bool.or_eq_true] at this
    refine ⟨fun e he hb => ?_, this.2.imp Nat.eq_of_beq_eq_true (fun h => by obtain ⟨k, _, hk⟩ := List.any_eq_true.1 h; exact ⟨k, hk⟩)⟩
    have := (Array.all_eq_true_iff_forall_mem.1 this.1) e he
    simp only [hb, Bool.not_true, Bool.false_or, Bool.and_eq_true, Bool.not_eq_true'] at this
    exact ⟨fun e2 => by rw [e2] at this; simp at this, by simpa using this.2⟩
  refine ⟨fun j o ho => (key j o (by simpa using ho)).1, fun i hi hne => ?_, by simpa using h1⟩
  have hi' : i < ops.length := by simpa using hi
  rcases (key i ops[i] (by simp [hi'])).2 with e | e
  · exact (hne e).elim
  · obtain ⟨k, e⟩ := e
    obtain ⟨oj, hoj, e, he, hb, hon⟩ := Region.waitsFor_spec e
    exact ⟨k, oj, hoj, e, he, hb, hon⟩
end
section
variable {P : Program} {n : Nat} {ops : List Oper} {Q : Post} {f : Frm} {C : World → Prop}
def zpost (P : Program) (n : Nat) (ops : List Oper) (oz : Oper) (Q : Post) : Post := fun e f w => e = .normal ∧ LW P n ops [oz] Q f (fun u => u = w)
theorem CW.reg_sink (z : Nat) {id : Nat} {oz : Oper} (S : World → Prop) [hm : Mixed P] [hc : Drawn C] (hz : ops[z]? = some oz) (hB : sinkB ops z = true) (h : DW P n ops (zpost P n ops oz Q) [z] S f C) : CW P n (.region id ops.toArray true) Q f C := by
  intro w hw a ha
  have h1 := wpAny_of_held _ _ _ _ (h _ (hc.drew w hw) a ha)
  have hs := sinkB_sound hB
  have hlt : z < ops.length := by simpa using hs.lt
  refine wp_region_any hm.mixed ?_
  have h2 := any_sink (Q' := lift n (only fun f w => zpost P n ops oz Q .normal f w)) (Q := lift n Q) hs (fun e a w ⟨_, _, he, _⟩ => he) (fun a w ⟨f, hf, _, _, hl⟩ => by
    have h3 := hl w rfl a hf
    have ho : ops.toArray[z]? = some oz := by simpa using hz
    unfold wpOp
    simp only [ho]
    simp only [wpList] at h3
    exact h3) (ops.length - 1) (Array.replicate ops.length false) a _ (by simp) (by simp [hlt]) (fun j o ho _ hj => by
      have hj' : j < ops.length := by simpa using (Array.getElem?_eq_some_iff.1 ho).1
      simp [hj'] at hj) (by simpa [lst] using h1)
  have e : ops.toArray.size = ops.length - 1 + 1 := by simp; omega
  rw [e]
  have e2 : (Array.replicate (ops.length - 1 + 1) false) = Array.replicate ops.length false := by congr 1; omega
  rw [e2]
  exact h2
theorem CW.reg_sinkC (z : Nat) {id : Nat} {oz : Oper} [hm : Mixed P] [hc : Drawn C] (hz : ops[z]? = some oz) (hB : sinkB ops z = true) (h : DW P n ops (zpost P n ops oz Q) [z] C f C) : CW P n (.region id ops.toArray true) Q f C := CW.reg_sink z C hz hB h
theorem At.sink {oz : Oper} (h : LR false P n ops [oz] Q f C) : At (zpost P n ops oz Q) .normal f C := fun w hw => ⟨rfl, fun u e => e ▸ h w hw⟩
end
end Go.Hb

namespace Go.Hb
section
variable {P : Program} {f : Frm} {T T' T'' : TypeId} {x y : Operand} {C : World → Prop} {w0 w : World} {F : Nat → Prop} {L L' : List Asrt}
theorem Ev.min2 {k k' : IntKind} {a b : Int} {ts : Array TypeId} (hx : f.ev x = .int k a) (hy : f.ev y = .int k' b) : Ev P C f (.call ⟨.builtin .min, [x, y].toArray, ts⟩) T (.int k (if b < a then b else a)) := fun w _ d p af g => by
  simp [execOp, resolve, invoke, builtin, Builtin.min_, Builtin.min2, hx, hy]
theorem quoQ {a b q : Nat} (h : a / b = q) (hx : f.ev x = .int .i64 (a : Int)) (hy : f.ev y = .int .i64 (b : Int)) (h0 : b ≠ 0) (h1 : a ≤ 9223372036854775807) : Ev P C f (.binOp .quo T' x y T'') T (.int .i64 (q : Int)) := by
  have := Ev.quo (P := P) (C := C) (T := T) (T' := T') (T'' := T'') hx hy (by omega)
  have e : (a : Int).tdiv (b : Int) = (q : Int) := by subst h; exact (Int.ofNat_tdiv a b).symm
  have hq : q ≤ a := by subst h; exact Nat.div_le_self _ _
  rw [e, wrap_i64 (by omega) (by omega)] at this
  exact this
theorem remQ {a b q : Nat} (h : a % b = q) (hx : f.ev x = .int .i64 (a : Int)) (hy : f.ev y = .int .i64 (b : Int)) (h0 : b ≠ 0) : Ev P C f (.binOp .rem T' x y T'') T (.int .i64 (q : Int)) := by
  have := Ev.rem (P := P) (C := C) (T := T) (T' := T') (T'' := T'') hx hy (by omega)
  have e : (a : Int).tmod (b : Int) = (q : Int) := by subst h; exact (Int.ofNat_tmod a b).symm
  rwa [e] at this
class MapT (P : Program) (T : TypeId) : Prop where
  ex : ∃ k e, P.underlying T = some (.map k e)
theorem equalIn_map (w : World) (d : Nat) {t k e : TypeId} {r : Option Nat} (h : P.underlying t = some (.map k e)) : (Op.equalIn (d + 1) t (.map r) (.map none)).run P w = .ok r.isNone w := by
  cases r <;> simp [Op.equalIn, run_underlying h]
theorem Ev.map_nil [h : MapT P T'] {r : Option Nat} (hx : f.ev x = .map r) (hy : f.ev y = .map none) : Ev P C f (.binOp .eql T' x y T'') T (.bool r.isNone) :=
  ev_eql_of (fun w => by rw [hx, hy]; rfl) (by rw [hx, hy]; rfl) (fun w => by
    obtain ⟨k, e, hu⟩ := h.ex
    rw [hx, hy]
    exact equalIn_map w _ hu)
theorem subA_zero {b o c sz : Nat} : subA (some ⟨b, o, none⟩) c 0 sz = some ⟨b, o, none⟩ := by
  unfold subA
  split
  · rfl
  · simp [addr_add]
end
end Go.Hb

namespace Go.Proofs.YtkolmkdbjagfcaaGreat
open Go.Hb
attribute [local irreducible] LR CW At Ev thn blk finK noG again CallsTo DW QL dnext TW DP
set_option maxRecDepth 100000

theorem own_cap {w : World} {a : Option Addr} {E : TypeId} {n c sz : Nat} {xs : List Value} (h : w.ownsRow 0 E sz (.slice a n c) n xs) : n ≤ c ∧ c ≤ 9223372036854775807 ∧ (a = none ∨ ∃ b, a = some ⟨b, 0, none⟩) := by
  rcases h.2 with ⟨he, h0⟩ | ⟨g, cap, cur, he, _, _, h1, h2, _⟩
  · simp only [Value.slice.injEq] at he
    obtain ⟨rfl, _, rfl⟩ := he
    exact ⟨by omega, by omega, .inl rfl⟩
  · simp only [Value.slice.injEq] at he
    obtain ⟨rfl, _, rfl⟩ := he
    unfold maxLen at h2
    exact ⟨h1, by omega, .inr ⟨g, rfl⟩⟩
theorem subA_own {a : Option Addr} {c sz : Nat} (h : a = none ∨ ∃ b, a = some ⟨b, 0, none⟩) : subA a c 0 sz = a := by
  rcases h with rfl | ⟨b, rfl⟩
  · unfold subA; split <;> rfl
  · exact subA_zero
theorem rd_take {w : World} {a : Option Addr} {xs : List Value} (h : Rd w a xs) (k : Nat) : Rd w a (xs.take k) := fun j v hj => by
  refine h j v ?_
  rw [List.getElem?_take] at hj
  split at hj
  · exact hj
  · cases hj
theorem Ev.slice_hi0 {P : Program} {C : World → Prop} {f : Frm} {T T' : TypeId} {x y : Operand} {E : TypeId} {sz by_ k c : Nat} {q : IntKind} {a : Option Addr} {j : Nat} {v : Int} [h : SliceOf P T E sz by_] (ha : subA a c 0 sz = a) (hv : v = (j : Int)) (h1 : j ≤ c) (hx : f.ev x = .slice a k c) (hy : f.ev y = .int q v) :
    Ev P C f (.slice T x none (some y) none) T' (.slice a j c) := by
  subst hv
  have hh := Ev.slice_hi (P := P) (C := C) (T := T) (T' := T') hx hy (by omega) (by omega)
  rw [ha, Int.toNat_natCast] at hh
  exact hh
abbrev bS (a : Option Addr) (c : Nat) (l : List Int) : Asrt := osl (.slice a l.length c) 5 1 l.length (bv l)
set_option maxHeartbeats 2000000 in
theorem p68 (a : Option Addr) (c m : Nat) (l : List Int) (w : World) (h : (bS a c l).holds w) (h0 : 0 < m) (hm : l.length + m ≤ 140737488355328) :
    CallsTo Tryz.prog 71 [.slice a l.length c, .int .i64 (m : Int)] w fun v w' => ∃ a' c', v = .slice a' l.length c' ∧ Step (bS a c l) (bS a' c' l) w w' := by
  have hS0 : St w (bS a c l).foot [bS a c l] w := St.one h (fun k hk => (World.ownsRow.lt h k hk).2) (osl.dep _ _ _ _ _)
  obtain ⟨hlc, hcm, ha⟩ := own_cap h
  refine go_in (n := 27) hS0 Tryz.func71 rfl rfl ?_
  generalize hF : (bS a c l).foot = F at *
  by_cases hroom : l.length + m ≤ c
  · repeat'(first|refine kv' ?_|apply jJ|refine jE' ?_|refine jp' ?_|(apply jc;kernel_rfl)|refine kg' ?_|refine kG' ?_|refine kB' fun _=>?_|refine kA' fun _=>?_|refine kK' fun _=>?_|refine kU' ?_|(apply subX;(iterate 2 exact rfl);(iterate 2(first|omega|(dsimp only;omega)));exact rfl)|(apply LR.ev; (· exact Ev.cap rfl); (· exact rfl))|((first|refine kR' ?_ ?_|refine kQ' ?_ ?_);all_goals(intro hc;try simp only[hcs]at hc;try(exfalso;first|contradiction|omega))))
    (apply ret1; (· exact rfl); intro w' hS)
    subst hF
    exact ⟨a, c, rfl, hS.step rfl⟩
  · obtain ⟨d, hd⟩ : ∃ d : Nat, l.length + m = c + d := ⟨l.length + m - c, by omega⟩
    have hd0 : 0 < d := by omega
    have e1 : (m : Int) - ((c : Int) - (l.length : Int)) = (d : Int) := by omega
    repeat'(first|(apply LR.ev; (· exact (show Ev _ _ _ _ _ (.int .i64 (d : Int)) from by rw [← e1]; exact Ev.sub rfl rfl (by omega) (by omega))); (· exact rfl))|refine kv' ?_|apply jJ|refine jE' ?_|refine jp' ?_|(apply jc;kernel_rfl)|refine kg' ?_|refine kG' ?_|refine kB' fun _=>?_|refine kA' fun _=>?_|refine kK' fun _=>?_|refine kU' ?_|(apply subX;(iterate 2 exact rfl);(iterate 2(first|omega|(dsimp only;omega)));exact rfl)|(apply LR.ev; (· first | exact Ev.cap rfl | exact Ev.slice_hi0 (a := a) (c := c) (j := c) (subA_own ha) rfl (Nat.le_refl _) rfl rfl); (· exact rfl))|(refine LR.grow (m := d) (c := c) (xs := bv l) rfl rfl (fun b' c' => sH _ _ _) hd0 (by omega) (by unfold maxLen; omega) rfl ?_; (intro b' c' hkc))|(apply LR.ev; (· exact Ev.slice_hi0 (a := some ⟨b', 0, none⟩) (c := c') (j := l.length) subA_zero rfl hkc rfl rfl); (· exact rfl))|((first|refine kR' ?_ ?_|refine kQ' ?_ ?_);all_goals(intro hc;try simp only[hcs]at hc;try(exfalso;first|contradiction|omega))))
    (apply ret1; (· exact rfl); intro w' hS)
    subst hF
    exact ⟨some ⟨b', 0, none⟩, c', rfl, hS.step rfl⟩
def cks (X : BitVec 32) : List Int := [byteK X 24, byteK X 16, byteK X 8, byteK X 0]
theorem cks_next (X : BitVec 32) {k : Nat} (h : k < 4) : (cks X).take (k + 1) = (cks X).take k ++ [byteK X (24 - 8 * k)] := by
  have h4 : k = 0 ∨ k = 1 ∨ k = 2 ∨ k = 3 := by omega
  rcases h4 with rfl | rfl | rfl | rfl <;> rfl
structure Kst2 where
  k : Nat
  a : Option Addr
  c : Nat
set_option maxHeartbeats 4000000 in
theorem p34 (a : Option Addr) (c : Nat) (l : List Int) (w : World) (hr : Rd w a (bv l)) (hb : Byt l) (hz : a = none → c = 0) (hm : l.length ≤ 140737488355000) :
    CallsTo Tryz.prog 21 [.slice a l.length c] w fun v w' => ∃ a' c', v = .slice a' (sealL l).length c' ∧ NewSl w w' (.slice a' (sealL l).length c') 5 1 (sealL l).length (bv (sealL l)) := by
  refine go_in (n := 23) (St.rd1 hr) Tryz.func21 rfl rfl ?_
  obtain ⟨X, hX⟩ : ∃ X, crcL l = X := ⟨_, rfl⟩
  repeat'(first|refine kv' ?_|apply jJ|refine jE' ?_|refine jp' ?_|(apply jc;kernel_rfl)|refine kg' ?_|refine kG' ?_|refine kB' fun _=>?_|refine kA' fun _=>?_|refine kK' fun _=>?_|refine kU' ?_|(apply LR.call; (· exact rfl); (intro w1 h1; refine (c86 a c l w1 (h1.rd_of memZ) hz (by omega)).mono ?_; rintro v w2 ⟨a1, c1, rfl, hn⟩; refine LR.back (h1.newSl hn) ?_; clear hn h1 w2 w1))|(apply LR.call; (· exact rfl); (intro w1 h1; refine CallsTo.mono (show CallsTo Tryz.prog 71 [.slice a1 l.length c1, .int .i64 4] w1 _ from p68 a1 c1 4 l w1 (h1.holds (bS a1 c1 l) memZ) (by omega) (by omega)) ?_; rintro v w2 ⟨a2, c2, rfl, hst⟩; refine LR.back (St.did h1 selZ rfl hst (osl.dep _ _ _ _ _)) ?_; clear hst h1 w2 w1))|(apply kq; (· exact rfl); (· intro w1 h1; have hq := CallsTo.q (p70 a c l w1 (h1.rd_of memZ) hb (by omega)) h1; rw [hX] at hq; exact hq))|((first|refine kR' ?_ ?_|refine kQ' ?_ ?_);all_goals(intro hc;try simp only[hcs]at hc;try(exfalso;first|contradiction|omega))))
  apply CW.loop [3, 5, 11, 12, 13, 14, 15, 16, 17, 18, 19, 20, 21] (fun s : Kst2 => s.k ≤ 4) (fun s => [(5, Value.int .i64 (24 - 8 * (s.k : Int))), (3, .slice s.a (l ++ (cks X).take s.k).length s.c)])
    (fun s => St w NoF [bS s.a s.c (l ++ (cks X).take s.k), rdA a (bv l)]) (fun s => 4 - s.k)
  · intro w' hw'
    refine ⟨⟨0, a2, c2⟩, by simp, ⟨rfl, ?_, trivial⟩, ?_⟩
    · show Value.slice a2 l.length c2 = .slice a2 (l ++ []).length c2
      rw [List.append_nil]
    · show St w NoF [bS a2 c2 (l ++ []), rdA a (bv l)] w'
      rw [List.append_nil]
      exact hw'
  rintro ⟨k, a3, c3⟩ g1 hk
  simp only at hk ⊢
  have hlen : (l ++ (cks X).take k).length = l.length + k := by
    rw [List.length_append, List.length_take]
    show l.length + min k 4 = _
    omega
  by_cases hlt : k < 4
  · have hsucc : l ++ (cks X).take (k + 1) = (l ++ (cks X).take k) ++ [byteK X (24 - 8 * k)] := by rw [cks_next X hlt, List.append_assoc]
    generalize l ++ (cks X).take k = M at hlen hsucc ⊢
    repeat'(first|(apply LR.ev; (· first | exact Ev.shrU (X := X) (j := 24 - 8 * k) rfl rfl (by omega) (by omega) | exact (show Ev _ _ _ _ _ (.int .u8 (byteK X (24 - 8 * k))) from by rw [← byte_K]; exact Ev.conv rfl)); (· exact rfl))|(apply Go.Hb.kK;(iterate 4 exact rfl);intro bs)|refine kv' ?_|apply jJ|refine jE' ?_|refine jp' ?_|(apply jc;kernel_rfl)|refine kg' ?_|refine kG' ?_|refine kB' fun _=>?_|refine kA' fun _=>?_|refine kK' fun _=>?_|refine kU' ?_|(apply LR.append (xs := bv M) (news := [Value.int .u8 (byteK X (24 - 8 * k))]) (m := 1); (· exact rfl); (· exact rfl); (· intro a' c'; (repeat (first | exact sH _ _ _ | apply sT))); (· exact fun w' hw' => hw'.rd_of_blk (mH _ _)); (· exact fun hx => by cases hx); (· exact rfl); (· exact rfl); (· omega); (· unfold maxLen; omega); (· exact rfl); (intro a4 c4))|(apply subX;(iterate 2 exact rfl);(iterate 2(first|omega|(dsimp only;omega)));exact rfl)|((first|refine kR' ?_ ?_|refine kQ' ?_ ?_);all_goals(intro hc;try simp only[hcs]at hc;try(exfalso;first|contradiction|omega))))
    refine At.again (⟨k + 1, a4, c4⟩ : Kst2) (by simp only; omega) ?_ ⟨?_, ?_, trivial⟩ (fun w' hw' => ?_) (by simp only; omega)
    · (repeat (first | exact Out.refl _ _ | exact Out.mix | (apply Out.upd; (· exact rfl)) | (apply Out.updL; (· exact rfl)) | (apply Out.mixs; (· exact rfl))))
    · refine congrArg (Value.int .i64) ?_
      simp only
      omega
    · simp only
      rw [hsucc]
      simp only [List.length_append, List.length_cons, List.length_nil]
      rfl
    · simp only
      rw [hsucc]
      have e : bS a4 c4 (M ++ [byteK X (24 - 8 * k)]) = osl (.slice a4 (M.length + 1) c4) 5 1 (M.length + 1) (bv M ++ [Value.int .u8 (byteK X (24 - 8 * k))]) := by simp [bS, bv]
      rw [e]
      exact hw'.sub subZ
  · have hke : k = 4 := by omega
    subst hke
    repeat'(first|refine kv' ?_|apply jJ|refine jE' ?_|refine jp' ?_|(apply jc;kernel_rfl)|refine kg' ?_|refine kG' ?_|refine kB' fun _=>?_|refine kA' fun _=>?_|refine kK' fun _=>?_|refine kU' ?_|((first|refine kR' ?_ ?_|refine kQ' ?_ ?_);all_goals(intro hc;try simp only[hcs]at hc;try(exfalso;first|contradiction|omega))))
    (apply ret1; (· exact rfl); intro w' hS)
    have e : l ++ (cks X).take 4 = sealL l := by rw [← hX]; rfl
    rw [e] at hS ⊢
    exact ⟨a3, c3, rfl, hS.toNew (mH _ _)⟩
set_option maxHeartbeats 2000000 in
theorem p98 (a b : Option Addr) (ca cb : Nat) (la lb : List Int) (w : World) (ha : Rd w a (bv la)) (hb : Rd w b (bv lb)) (hm : la.length ≤ 281474976710656) :
    CallsTo Tryz.prog 98 [.slice a la.length ca, .slice b lb.length cb] w fun v w' => v = .bool (decide (la = lb)) ∧ Grew w w' := by
  refine go_in (n := 26) (St.rd2 ha hb) Tryz.func98 rfl rfl ?_
  repeat'(first|refine kv' ?_|apply jJ|refine jE' ?_|refine jp' ?_|(apply jc;kernel_rfl)|refine kg' ?_|refine kG' ?_|refine kB' fun _=>?_|refine kA' fun _=>?_|refine kK' fun _=>?_|refine kU' ?_|((first|refine kR' ?_ ?_|refine kQ' ?_ ?_);all_goals(intro hc;try simp only[hcs]at hc;try(exfalso;first|contradiction|omega))))
  · (apply ret1; (· exact rfl); intro w' hS)
    refine ⟨congrArg Value.bool ?_, hS.toKeep⟩
    have : la ≠ lb := fun e => by subst e; simp at hc
    simp [this]
  · apply CW.loop [4, 5, 13, 14, 15, 16, 17, 18, 19, 20, 21, 22, 23, 24, 25] (fun i : Nat => i ≤ la.length ∧ la.take i = lb.take i) (fun i : Nat => [(13, Value.int .i64 i)]) (fun i => St w NoF [rdA a (bv la), rdA b (bv lb)]) (fun i => la.length - i)
    · exact fun w' hw' => ⟨0, ⟨by omega, by simp⟩, ⟨rfl, trivial⟩, hw'⟩
    intro i g ⟨hi, heq⟩
    by_cases hlt : i < la.length
    · obtain ⟨ba, oa, rfl⟩ := ha.form (fun e => by have := congrArg List.length e; simp at this; subst this; simp at hlt)
      obtain ⟨bb, ob, rfl⟩ := hb.form (fun e => by have := congrArg List.length e; simp at this; subst this; simp at hc; simp [hc] at hlt)
      have hlb : i < lb.length := by omega
      repeat'(first|refine kv' ?_|apply jJ|refine jE' ?_|refine jp' ?_|(apply jc;kernel_rfl)|refine kg' ?_|refine kG' ?_|refine kB' fun _=>?_|refine kA' fun _=>?_|refine kK' fun _=>?_|refine kU' ?_|(apply idxX;(iterate 2 exact rfl);(iterate 2(first|omega|(dsimp only;omega)));exact rfl)|(apply LR.ev; (· apply Ev.load_rd; (· exact rfl); (· repeat (first | exact mH _ _ | apply mT)); (· exact bv_at (i := i) (by simp) (by omega))); (· exact rfl))|(apply addX;(iterate 2 exact rfl);(iterate 2(first|omega|(dsimp only;omega)));exact rfl)|((first|refine kR' ?_ ?_|refine kQ' ?_ ?_);all_goals(intro hc;try simp only[hcs]at hc;try(exfalso;first|contradiction|omega))))
      · (apply ret1; (· exact rfl); intro w' hS)
        refine ⟨congrArg Value.bool ?_, hS.toKeep⟩
        have : la ≠ lb := fun e => by subst e; simp_all
        simp [this]
      · apply At.again (i + 1) ⟨by omega, take_succ_eq hlt hlb heq (by simpa using ‹_›)⟩
        · (repeat (first | exact Out.refl _ _ | exact Out.mix | (apply Out.upd; (· exact rfl)) | (apply Out.updL; (· exact rfl)) | (apply Out.mixs; (· exact rfl))))
        · exact ⟨rfl, trivial⟩
        · exact fun w' hw' => hw'
        · omega
    · repeat'(first|refine kv' ?_|apply jJ|refine jE' ?_|refine jp' ?_|(apply jc;kernel_rfl)|refine kg' ?_|refine kG' ?_|refine kB' fun _=>?_|refine kA' fun _=>?_|refine kK' fun _=>?_|refine kU' ?_|((first|refine kR' ?_ ?_|refine kQ' ?_ ?_);all_goals(intro hc;try simp only[hcs]at hc;try(exfalso;first|contradiction|omega))))
      (apply ret1; (· exact rfl); intro w' hS)
      refine ⟨congrArg Value.bool ?_, hS.toKeep⟩
      have e1 : la.take i = la := List.take_of_length_le (by omega)
      have e2 : lb.take i = lb := List.take_of_length_le (by omega)
      rw [e1, e2] at heq
      simp [heq]
end Go.Proofs.YtkolmkdbjagfcaaGreat

namespace Go.Hb
set_option linter.unusedSimpArgs false
set_option linter.unusedVariables false

abbrev B64 (c : Int) : BitVec 64 := BitVec.ofInt 64 c
def tb (c : Int) (n : Nat) : Bool := (B64 c).getLsbD n
theorem wrap_toInt (x : BitVec 64) : IntKind.i64.wrap (x.toNat : Int) = x.toInt := by
  have hx := x.isLt
  have e1 : IntKind.i64.bits = 64 := rfl
  have e2 : IntKind.i64.signed = true := rfl
  unfold IntKind.wrap
  rw [e1, e2, BitVec.toInt_eq_toNat_cond]
  simp only [Bool.true_and, ge_iff_le, decide_eq_true_eq]
  split <;> split <;> omega
theorem andI_eq (a b : Int) : andI .i64 a b = (B64 a &&& B64 b).toInt := wrap_toInt _
theorem andNotI_eq (a b : Int) : andNotI .i64 a b = (B64 a &&& ~~~ B64 b).toInt := wrap_toInt _
theorem toInt_zero {x : BitVec 64} : x.toInt = 0 ↔ x = 0 := by
  constructor
  · intro h
    have : x.toInt = (0 : BitVec 64).toInt := by rw [h]; rfl
    exact BitVec.toInt_inj.1 this
  · rintro rfl; rfl
theorem low9 {n : Nat} (h : n ≤ 8) : n = 0 ∨ n = 1 ∨ n = 2 ∨ n = 3 ∨ n = 4 ∨ n = 5 ∨ n = 6 ∨ n = 7 ∨ n = 8 := by omega
theorem tb_div (c : Int) (n : Nat) (h : n ≤ 8) : tb c n = decide ((c.fdiv (2 ^ n)) % 2 = 1) := by
  unfold tb
  rw [← BitVec.testBit_toNat, Nat.testBit_eq_decide_div_mod_eq, BitVec.toNat_ofInt, decide_eq_decide, Int.fdiv_eq_ediv_of_nonneg c (by exact Int.le_of_lt (Int.pow_pos (by decide)))]
  rcases low9 h with rfl | rfl | rfl | rfl | rfl | rfl | rfl | rfl | rfl <;> simp only [Nat.reducePow, Int.reducePow, Nat.pow_zero, Int.pow_zero] <;> omega
theorem and_one (x : Int) : andI .i64 x 1 = x % 2 := by
  rw [andI_eq, BitVec.toInt_eq_toNat_cond, BitVec.toNat_and]
  have e : (B64 1).toNat = 1 := rfl
  rw [e, Nat.and_one_is_mod, BitVec.toNat_ofInt]
  split <;> omega
theorem shr_and (c : Int) (n : Nat) (h : n ≤ 8) : (andI .i64 (c.fdiv (2 ^ n)) 1 = 0) ↔ tb c n = false := by
  rw [and_one, tb_div c n h, decide_eq_false_iff_not]
  omega
theorem and_bit (c : Int) (n : Nat) (h : n ≤ 8) : (andI .i64 c (2 ^ n) = 0) ↔ tb c n = false := by
  rw [andI_eq, toInt_zero]
  have e : B64 (2 ^ n) = BitVec.twoPow 64 n := by
    rcases low9 h with rfl | rfl | rfl | rfl | rfl | rfl | rfl | rfl | rfl <;> rfl
  rw [e, BitVec.and_twoPow]
  unfold tb
  cases hx : (B64 c).getLsbD n with
  | false => simp
  | true =>
    simp only [if_true, Bool.true_eq_false, iff_false]
    intro h2
    have h3 := congrArg BitVec.toNat h2
    rcases low9 h with rfl | rfl | rfl | rfl | rfl | rfl | rfl | rfl | rfl <;> revert h3 <;> decide
def sumTo (c : Int) : Nat → Int
  | 0 => 0
  | k + 1 => sumTo c k + if tb c (k + 1) then 2 ^ (k + 1) else 0
def sumB (c : Int) : Int := sumTo c 8
def crewOk (c : Int) : Bool := decide (0 ≤ c ∧ c ≤ 510 ∧ c % 2 = 0)
theorem crew_fin : ∀ k : Fin 512, (andNotI .i64 (k.val : Int) 510 = 0 ↔ crewOk (k.val : Int) = true) ∧ (sumB (k.val : Int) = (k.val : Int) ↔ crewOk (k.val : Int) = true) := by decide +kernel
theorem sumTo_bd (c : Int) : ∀ k, 0 ≤ sumTo c k ∧ sumTo c k ≤ 2 ^ (k + 1) - 2
  | 0 => by show (0 : Int) ≤ 0 ∧ (0 : Int) ≤ 2 ^ (0 + 1) - 2; decide
  | k + 1 => by
    have ih := sumTo_bd c k
    have hp : (0 : Int) < 2 ^ (k + 1) := Int.pow_pos (by decide)
    have e : (2 : Int) ^ (k + 1 + 1) = 2 ^ (k + 1) * 2 := Int.pow_succ 2 (k + 1)
    unfold sumTo
    split <;> omega
theorem sumB_bd (c : Int) : 0 ≤ sumB c ∧ sumB c ≤ 510 := sumTo_bd c 8
theorem andNot_le {x m : BitVec 64} (h : x &&& ~~~ m = 0) : x.toNat ≤ m.toNat := by
  have e : x = x &&& m := by
    refine BitVec.eq_of_getLsbD_eq fun i hi => ?_
    have h1 := congrArg (fun z => z.getLsbD i) h
    simp only [BitVec.getLsbD_and, BitVec.getLsbD_not, BitVec.getLsbD_zero, hi, decide_true, Bool.true_and] at h1 ⊢
    have h1 : (x.getLsbD i && !m.getLsbD i) = false := by simpa using h1
    revert h1
    cases x.getLsbD i <;> cases m.getLsbD i <;> simp
  rw [e, BitVec.toNat_and]
  exact Nat.and_le_right
theorem crew_rng {c : Int} (h1 : -9223372036854775808 ≤ c) (h2 : c ≤ 9223372036854775807) (h : andNotI .i64 c 510 = 0) : 0 ≤ c ∧ c ≤ 510 := by
  rw [andNotI_eq, toInt_zero] at h
  have h3 := andNot_le h
  have e : (B64 510).toNat = 510 := rfl
  rw [e, BitVec.toNat_ofInt] at h3
  omega
theorem andNot_ok {c : Int} (h1 : -9223372036854775808 ≤ c) (h2 : c ≤ 9223372036854775807) : andNotI .i64 c 510 = 0 ↔ crewOk c = true := by
  by_cases h : 0 ≤ c ∧ c < 512
  · have := (crew_fin ⟨c.toNat, by omega⟩).1
    simp only [Int.toNat_of_nonneg h.1] at this
    exact this
  · constructor
    · intro h3
      have := crew_rng h1 h2 h3
      omega
    · intro h3
      unfold crewOk at h3
      rw [decide_eq_true_eq] at h3
      omega
theorem sumB_ok (c : Int) : sumB c = c ↔ crewOk c = true := by
  by_cases h : 0 ≤ c ∧ c < 512
  · have := (crew_fin ⟨c.toNat, by omega⟩).2
    simp only [Int.toNat_of_nonneg h.1] at this
    exact this
  · constructor
    · intro h3
      have := sumB_bd c
      omega
    · intro h3
      unfold crewOk at h3
      rw [decide_eq_true_eq] at h3
      omega
def hasC (c n : Int) : Bool := decide (0 < n ∧ n ≤ 8) && tb c n.toNat
end Go.Hb

namespace Go.Proofs.YtkolmkdbjagfcaaGreat
open Go.Hb
attribute [local irreducible] LR CW At Ev thn blk finK noG again CallsTo DW QL dnext TW DP
set_option maxRecDepth 100000

structure Cst where
  k : Nat
  a : Option Addr
  c : Nat
abbrev ilK (a : Option Addr) (c : Nat) (l : List Int) : Asrt := osl (.slice a l.length c) 3 1 l.length (iv l)
def liveR (s r : Int) : Bool := decide (¬ (s = 0 ∧ r = 0) ∧ ringE s r = 0)
theorem q61 (c : Int) (w : World) (hc : -9223372036854775808 ≤ c ∧ c ≤ 9223372036854775807) : CallsTo Tryz.prog 38 [.int .i64 c] w fun v w' => v = .int .i64 (if crewOk c then 0 else 2) ∧ Grew w w' := by
  refine go_in (n := 6) (St.refl _ NoF) Tryz.func38 rfl rfl ?_
  have hk := andNot_ok hc.1 hc.2
  repeat'(first|refine kv' ?_|apply jJ|refine jE' ?_|refine jp' ?_|(apply jc;kernel_rfl)|refine kg' ?_|refine kG' ?_|refine kB' fun _=>?_|refine kA' fun _=>?_|refine kK' fun _=>?_|refine kU' ?_|((first|refine kR' ?_ ?_|refine kQ' ?_ ?_);all_goals(intro hc;try simp only[hcs]at hc;try(exfalso;first|contradiction|omega))))
  all_goals (
    (apply ret1; (· exact rfl); intro w' hS)
    refine ⟨congrArg (Value.int .i64) ?_, hS.toKeep⟩
    first
      | (rw [if_pos (hk.1 (by assumption))])
      | (rw [if_neg (fun h => absurd (hk.2 h) (by assumption))]))
theorem q23 (c n : Int) (w : World) : CallsTo Tryz.prog 39 [.int .i64 c, .int .i64 n] w fun v w' => v = .bool (hasC c n) ∧ Grew w w' := by
  refine go_in (n := 18) (St.refl _ NoF) Tryz.func39 rfl rfl ?_
  by_cases h : 0 < n ∧ n ≤ 8
  · obtain ⟨k, rfl⟩ : ∃ k : Nat, n = (k : Int) := ⟨n.toNat, by omega⟩
    have hk := shr_and c k (by omega)
    have hm : min (k : Int).toNat IntKind.i64.bits = k := by show min _ 64 = _; omega
    rw [← hm] at hk
    repeat'(first|refine kv' ?_|apply jJ|refine jE' ?_|refine jp' ?_|(apply jc;kernel_rfl)|refine kg' ?_|refine kG' ?_|refine kB' fun _=>?_|refine kA' fun _=>?_|refine kK' fun _=>?_|refine kU' ?_|((first|refine kR' ?_ ?_|refine kQ' ?_ ?_);all_goals(intro hc;try simp only[hcs]at hc;try(exfalso;first|contradiction|omega))))
    all_goals (
      (apply ret1; (· exact rfl); intro w' hS)
      refine ⟨congrArg Value.bool ?_, hS.toKeep⟩
      unfold hasC
      rw [decide_eq_true h, Bool.true_and]
      rw [hm] at hk ⊢
      rw [Int.toNat_natCast]
      cases hx : tb c k with
      | true => rw [decide_eq_false (fun e => by rw [hk.1 e] at hx; cases hx)]; rfl
      | false => rw [decide_eq_true (hk.2 hx)]; rfl)
  · repeat'(first|refine kv' ?_|apply jJ|refine jE' ?_|refine jp' ?_|(apply jc;kernel_rfl)|refine kg' ?_|refine kG' ?_|refine kB' fun _=>?_|refine kA' fun _=>?_|refine kK' fun _=>?_|refine kU' ?_|((first|refine kR' ?_ ?_|refine kQ' ?_ ?_);all_goals(intro hc;try simp only[hcs]at hc;try(exfalso;first|contradiction|omega))))
    all_goals (
      (apply ret1; (· exact rfl); intro w' hS)
      refine ⟨congrArg Value.bool ?_, hS.toKeep⟩
      unfold hasC
      rw [decide_eq_false h]
      rfl)
theorem q85 (k : Nat) (w : World) (hk : k ≤ 8) : CallsTo Tryz.prog 96 [.int .i64 (k : Int)] w fun v w' => v = .int .i64 (2 ^ k) ∧ Grew w w' := by
  refine go_in (n := 13) (St.refl _ NoF) Tryz.func96 rfl rfl ?_
  repeat'(first|refine kv' ?_|apply jJ|refine jE' ?_|refine jp' ?_|(apply jc;kernel_rfl)|refine kg' ?_|refine kG' ?_|refine kB' fun _=>?_|refine kA' fun _=>?_|refine kK' fun _=>?_|refine kU' ?_|((first|refine kR' ?_ ?_|refine kQ' ?_ ?_);all_goals(intro hc;try simp only[hcs]at hc;try(exfalso;first|contradiction|omega))))
  apply CW.loop [3, 4, 5, 6, 7, 8, 9, 10, 11] (fun i : Nat => i ≤ k) (fun i : Nat => [(3, Value.int .i64 (2 ^ i)), (4, Value.int .i64 (i : Int))]) (fun _ => St w NoF []) (fun i => k - i)
  · exact fun w' hw' => ⟨0, by omega, ⟨rfl, rfl, trivial⟩, hw'⟩
  intro i g hi
  have hp : ∀ j : Nat, j ≤ 8 → (2 : Int) ^ j ≤ 256 := fun j hj => by
    have := low9 hj
    rcases this with rfl | rfl | rfl | rfl | rfl | rfl | rfl | rfl | rfl <;> decide
  have hp0 : (0 : Int) < 2 ^ i := Int.pow_pos (by decide)
  have hpi := hp i (by omega)
  by_cases hlt : i < k
  · repeat'(first|refine kv' ?_|apply jJ|refine jE' ?_|refine jp' ?_|(apply jc;kernel_rfl)|refine kg' ?_|refine kG' ?_|refine kB' fun _=>?_|refine kA' fun _=>?_|refine kK' fun _=>?_|refine kU' ?_|(apply mulX;(iterate 2 exact rfl);(iterate 2(first|omega|(dsimp only;omega)));exact rfl)|(apply addX;(iterate 2 exact rfl);(iterate 2(first|omega|(dsimp only;omega)));exact rfl)|((first|refine kR' ?_ ?_|refine kQ' ?_ ?_);all_goals(intro hc;try simp only[hcs]at hc;try(exfalso;first|contradiction|omega))))
    refine At.again (i + 1) (by omega) ?_ ⟨?_, rfl, trivial⟩ (fun w' hw' => hw') (by omega)
    · (repeat (first | exact Out.refl _ _ | exact Out.mix | (apply Out.upd; (· exact rfl)) | (apply Out.updL; (· exact rfl)) | (apply Out.mixs; (· exact rfl))))
    · exact congrArg (Value.int .i64) (Int.pow_succ 2 i).symm
  · have hie : i = k := by omega
    subst hie
    repeat'(first|refine kv' ?_|apply jJ|refine jE' ?_|refine jp' ?_|(apply jc;kernel_rfl)|refine kg' ?_|refine kG' ?_|refine kB' fun _=>?_|refine kA' fun _=>?_|refine kK' fun _=>?_|refine kU' ?_|((first|refine kR' ?_ ?_|refine kQ' ?_ ?_);all_goals(intro hc;try simp only[hcs]at hc;try(exfalso;first|contradiction|omega))))
    (apply ret1; (· exact rfl); intro w' hS)
    exact ⟨rfl, hS⟩
theorem q50 (c n : Int) (w : World) : CallsTo Tryz.prog 50 [.int .i64 c, .int .i64 n] w fun v w' => v = .bool (hasC c n) ∧ Grew w w' := by
  refine go_in (n := 18) (St.refl _ NoF) Tryz.func50 rfl rfl ?_
  by_cases h : 0 < n ∧ n ≤ 8
  · obtain ⟨k, rfl⟩ : ∃ k : Nat, n = (k : Int) := ⟨n.toNat, by omega⟩
    have hk := and_bit c k (by omega)
    repeat'(first|refine kv' ?_|apply jJ|refine jE' ?_|refine jp' ?_|(apply jc;kernel_rfl)|refine kg' ?_|refine kG' ?_|refine kB' fun _=>?_|refine kA' fun _=>?_|refine kK' fun _=>?_|refine kU' ?_|(apply kq; (· exact rfl); (· intro w1 h1; exact CallsTo.q (q85 k w1 (by omega)) h1))|((first|refine kR' ?_ ?_|refine kQ' ?_ ?_);all_goals(intro hc;try simp only[hcs]at hc;try(exfalso;first|contradiction|omega))))
    all_goals (
      (apply ret1; (· exact rfl); intro w' hS)
      refine ⟨congrArg Value.bool ?_, hS.toKeep⟩
      unfold hasC
      rw [decide_eq_true h, Bool.true_and, Int.toNat_natCast]
      cases hx : tb c k with
      | true => rw [decide_eq_false (fun e => by rw [hk.1 e] at hx; cases hx)]; rfl
      | false => rw [decide_eq_true (hk.2 hx)]; rfl)
  · repeat'(first|refine kv' ?_|apply jJ|refine jE' ?_|refine jp' ?_|(apply jc;kernel_rfl)|refine kg' ?_|refine kG' ?_|refine kB' fun _=>?_|refine kA' fun _=>?_|refine kK' fun _=>?_|refine kU' ?_|((first|refine kR' ?_ ?_|refine kQ' ?_ ?_);all_goals(intro hc;try simp only[hcs]at hc;try(exfalso;first|contradiction|omega))))
    all_goals (
      (apply ret1; (· exact rfl); intro w' hS)
      refine ⟨congrArg Value.bool ?_, hS.toKeep⟩
      unfold hasC
      rw [decide_eq_false h]
      rfl)
def crewTo (c : Int) (k : Nat) : List Int := ((List.range k).map fun i : Nat => ((i + 1 : Nat) : Int)).filter (hasC c)
theorem crewTo_succ (c : Int) (k : Nat) : crewTo c (k + 1) = crewTo c k ++ if hasC c ((k + 1 : Nat) : Int) then [((k + 1 : Nat) : Int)] else [] := by
  unfold crewTo
  rw [List.range_succ, List.map_append, List.filter_append]
  congr 1
  show List.filter (hasC c) [((k + 1 : Nat) : Int)] = _
  rw [List.filter_cons]
  rfl
theorem crewTo_len (c : Int) (k : Nat) : (crewTo c k).length ≤ k := by
  unfold crewTo
  refine Nat.le_trans (List.length_filter_le _ _) ?_
  simp
theorem crewTo_mem {c : Int} {k : Nat} {x : Int} (h : x ∈ crewTo c k) : 1 ≤ x ∧ x ≤ k ∧ hasC c x = true := by
  unfold crewTo at h
  obtain ⟨h1, h2⟩ := List.mem_filter.1 h
  obtain ⟨i, hi, rfl⟩ := List.mem_map.1 h1
  rw [List.mem_range] at hi
  exact ⟨by omega, by omega, h2⟩
abbrev crewL (c : Int) : List Int := crewTo c 8
theorem q109 (c : Int) (w : World) : CallsTo Tryz.prog 95 [.int .i64 c] w fun v w' => ∃ a' c', v = .slice a' (crewL c).length c' ∧ NewSl w w' (.slice a' (crewL c).length c') 3 1 (crewL c).length (iv (crewL c)) := by
  refine go_in (n := 17) (St.refl _ NoF) Tryz.func95 rfl rfl ?_
  repeat'(first|refine kv' ?_|apply jJ|refine jE' ?_|refine jp' ?_|(apply jc;kernel_rfl)|refine kg' ?_|refine kG' ?_|refine kB' fun _=>?_|refine kA' fun _=>?_|refine kK' fun _=>?_|refine kU' ?_|((first|refine kR' ?_ ?_|refine kQ' ?_ ?_);all_goals(intro hc;try simp only[hcs]at hc;try(exfalso;first|contradiction|omega))))
  apply CW.loop [3, 4, 5, 6, 7, 8, 9, 10, 11, 12, 13, 14, 15] (fun s : Cst => s.k ≤ 8) (fun s => [(3, .slice s.a (crewTo c s.k).length s.c), (4, .int .i64 ((s.k + 1 : Nat) : Int))])
    (fun s => St w NoF [ilK s.a s.c (crewTo c s.k)]) (fun s => 8 - s.k)
  · exact fun w' hw' => ⟨⟨0, none, 0⟩, by simp, ⟨rfl, rfl, trivial⟩, hw'.nilsl 3 1⟩
  rintro ⟨k, a2, c2⟩ g hk
  simp only at hk ⊢
  have hsu := crewTo_succ c k
  have hle := crewTo_len c k
  by_cases hlt : k < 8
  · cases hx : hasC c ((k + 1 : Nat) : Int)
    · rw [hx] at hsu
      simp only [Bool.false_eq_true, if_false, List.append_nil] at hsu
      repeat'(first|refine kv' ?_|apply jJ|refine jE' ?_|refine jp' ?_|(apply jc;kernel_rfl)|refine kg' ?_|refine kG' ?_|refine kB' fun _=>?_|refine kA' fun _=>?_|refine kK' fun _=>?_|refine kU' ?_|(apply kq; (· exact rfl); (· intro w1 h1; have hq := CallsTo.q (q50 c ((k + 1 : Nat) : Int) w1) h1; rw [hx] at hq; exact hq))|(apply addX;(iterate 2 exact rfl);(iterate 2(first|omega|(dsimp only;omega)));exact rfl)|((first|refine kR' ?_ ?_|refine kQ' ?_ ?_);all_goals(intro hc;try simp only[hcs]at hc;try(exfalso;first|contradiction|omega))))
      refine At.again (⟨k + 1, a2, c2⟩ : Cst) (by simp only; omega) ?_ ⟨?_, ?_, trivial⟩ ?_ (by simp only; omega)
      · (repeat (first | exact Out.refl _ _ | exact Out.mix | (apply Out.upd; (· exact rfl)) | (apply Out.updL; (· exact rfl)) | (apply Out.mixs; (· exact rfl))))
      · simp only
        rw [hsu]
        rfl
      · exact congrArg (Value.int .i64) (by show ((k + 1 : Nat) : Int) + 1 = ((k + 1 + 1 : Nat) : Int); omega)
      · intro w' hw'
        simp only
        rw [hsu]
        exact hw'.sub subZ
    · rw [hx] at hsu
      simp only [if_true] at hsu
      generalize crewTo c k = L at hsu hle ⊢
      repeat'(first|(apply Go.Hb.kK;(iterate 4 exact rfl);intro bs)|refine kv' ?_|apply jJ|refine jE' ?_|refine jp' ?_|(apply jc;kernel_rfl)|refine kg' ?_|refine kG' ?_|refine kB' fun _=>?_|refine kA' fun _=>?_|refine kK' fun _=>?_|refine kU' ?_|(apply kq; (· exact rfl); (· intro w1 h1; have hq := CallsTo.q (q50 c ((k + 1 : Nat) : Int) w1) h1; rw [hx] at hq; exact hq))|(apply addX;(iterate 2 exact rfl);(iterate 2(first|omega|(dsimp only;omega)));exact rfl)|(apply LR.append (xs := iv L) (news := [Value.int .i64 ((k + 1 : Nat) : Int)]) (m := 1); (· exact rfl); (· exact rfl); (· intro a' c'; (repeat (first | exact sH _ _ _ | apply sT))); (· exact fun w' hw' => hw'.rd_of_blk (mH _ _)); (· exact fun hx => by cases hx); (· exact rfl); (· exact rfl); (· omega); (· unfold maxLen; omega); (· exact rfl); (intro a3 c3))|((first|refine kR' ?_ ?_|refine kQ' ?_ ?_);all_goals(intro hc;try simp only[hcs]at hc;try(exfalso;first|contradiction|omega))))
      refine At.again (⟨k + 1, a3, c3⟩ : Cst) (by simp only; omega) ?_ ⟨?_, ?_, trivial⟩ ?_ (by simp only; omega)
      · (repeat (first | exact Out.refl _ _ | exact Out.mix | (apply Out.upd; (· exact rfl)) | (apply Out.updL; (· exact rfl)) | (apply Out.mixs; (· exact rfl))))
      · simp only
        rw [hsu]
        simp only [List.length_append, List.length_cons, List.length_nil]
        rfl
      · exact congrArg (Value.int .i64) (by show ((k + 1 : Nat) : Int) + 1 = ((k + 1 + 1 : Nat) : Int); omega)
      · intro w' hw'
        simp only
        rw [hsu]
        have e : ilK a3 c3 (L ++ [((k + 1 : Nat) : Int)]) = osl (.slice a3 (L.length + 1) c3) 3 1 (L.length + 1) (iv L ++ [Value.int .i64 ((k + 1 : Nat) : Int)]) := by simp [ilK, iv]
        rw [e]
        exact hw'.sub subZ
  · have hke : k = 8 := by omega
    subst hke
    repeat'(first|refine kv' ?_|apply jJ|refine jE' ?_|refine jp' ?_|(apply jc;kernel_rfl)|refine kg' ?_|refine kG' ?_|refine kB' fun _=>?_|refine kA' fun _=>?_|refine kK' fun _=>?_|refine kU' ?_|((first|refine kR' ?_ ?_|refine kQ' ?_ ?_);all_goals(intro hc;try simp only[hcs]at hc;try(exfalso;first|contradiction|omega))))
    (apply ret1; (· exact rfl); intro w' hS)
    exact ⟨a2, c2, rfl, hS.toNew memZ⟩
def sumL (l : List Int) : Int := l.foldl (fun s x => s + 2 ^ x.toNat) 0
theorem sumL_snoc (l : List Int) (x : Int) : sumL (l ++ [x]) = sumL l + 2 ^ x.toNat := by unfold sumL; rw [List.foldl_append]; rfl
theorem hasC_nat (c : Int) {k : Nat} (h : k + 1 ≤ 8) : hasC c ((k + 1 : Nat) : Int) = tb c (k + 1) := by
  unfold hasC
  rw [decide_eq_true (by omega), Bool.true_and, Int.toNat_natCast]
theorem sumL_crew (c : Int) : ∀ k, k ≤ 8 → sumL (crewTo c k) = sumTo c k
  | 0, _ => rfl
  | k + 1, h => by
    rw [crewTo_succ, hasC_nat c h]
    unfold sumTo
    rw [← sumL_crew c k (by omega)]
    split
    · rw [sumL_snoc, Int.toNat_natCast]
    · rw [List.append_nil]; omega
theorem crewTo_asc (c : Int) (k : Nat) : (crewTo c k).Pairwise (· < ·) := by
  unfold crewTo
  refine List.Pairwise.filter _ ?_
  rw [List.pairwise_map]
  exact List.pairwise_lt_range.imp (fun h => by omega)
theorem pow_lt' {a b : Nat} (h : a < b) : (2 : Int) ^ a + 2 ^ a ≤ 2 ^ b := by
  have h1 : (2 : Nat) ^ (a + 1) ≤ 2 ^ b := Nat.pow_le_pow_right (by decide) h
  have h2 : (2 : Nat) ^ (a + 1) = 2 ^ a * 2 := Nat.pow_succ 2 a
  have e1 : (2 : Int) ^ a = ((2 ^ a : Nat) : Int) := by simp
  have e2 : (2 : Int) ^ b = ((2 ^ b : Nat) : Int) := by simp
  omega
theorem hasC_small {S x : Int} (h0 : 0 ≤ S) (h1 : S < 2 ^ x.toNat) : hasC S x = false := by
  unfold hasC
  by_cases h : 0 < x ∧ x ≤ 8
  · rw [decide_eq_true h, Bool.true_and, tb_div S x.toNat (by omega), Int.fdiv_eq_ediv_of_nonneg S (Int.le_of_lt (Int.pow_pos (by decide))), Int.ediv_eq_zero_of_lt h0 h1]
    rfl
  · rw [decide_eq_false h]; rfl
set_option maxHeartbeats 1000000 in
theorem q108 (a : Option Addr) (c : Nat) (m : Int) (w : World) (hr : Rd w a (iv (crewL m))) : CallsTo Tryz.prog 94 [.slice a (crewL m).length c] w fun v w' => v = .tuple [.int .i64 (sumB m), .int .i64 0].toArray ∧ Grew w w' := by
  refine go_in (n := 39) (St.rd1 hr) Tryz.func94 rfl rfl ?_
  have hsum : sumL (crewL m) = sumB m := sumL_crew m 8 (by omega)
  have hlen : (crewL m).length ≤ 8 := crewTo_len m 8
  have hasc : (crewL m).Pairwise (· < ·) := crewTo_asc m 8
  have hmem : ∀ x ∈ crewL m, 1 ≤ x ∧ x ≤ 8 := fun x hx => by have := crewTo_mem hx; omega
  rw [← hsum]
  generalize crewL m = l at hr hlen hasc hmem ⊢
  repeat'(first|refine kv' ?_|apply jJ|refine jE' ?_|refine jp' ?_|(apply jc;kernel_rfl)|refine kg' ?_|refine kG' ?_|refine kB' fun _=>?_|refine kA' fun _=>?_|refine kK' fun _=>?_|refine kU' ?_|((first|refine kR' ?_ ?_|refine kQ' ?_ ?_);all_goals(intro hc;try simp only[hcs]at hc;try(exfalso;first|contradiction|omega))))
  apply CW.loop [2, 3, 4, 5, 6, 7, 8, 9, 10, 11, 12, 13, 14, 15, 16, 17, 18, 19, 20, 21, 22, 23, 24, 25, 26, 27, 28, 29, 30, 31, 32, 33, 34, 35, 36, 37] (fun i : Nat => i ≤ l.length ∧ 0 ≤ sumL (l.take i) ∧ ∀ x ∈ l.drop i, sumL (l.take i) < 2 ^ x.toNat) (fun i : Nat => [(4, Value.int .i64 (sumL (l.take i))), (5, Value.int .i64 (i : Int))]) (fun _ => St w NoF [rdA a (iv l)]) (fun i => l.length - i)
  · exact fun w' hw' => ⟨0, ⟨by omega, Int.le_refl _, fun x hx => Int.pow_pos (by decide)⟩, ⟨rfl, rfl, trivial⟩, hw'⟩
  intro i g ⟨hi, hS0, hSx⟩
  by_cases hlt : i < l.length
  · obtain ⟨ba, oa, rfl⟩ := hr.form (fun e => by have := congrArg List.length e; simp only [iv_length, List.length_nil] at this; omega)
    obtain ⟨y, hy⟩ : ∃ y, l[i] = y := ⟨_, rfl⟩
    have hyb := hmem _ (List.getElem_mem hlt)
    have hyS := hSx l[i] (by rw [List.drop_eq_getElem_cons hlt]; exact List.mem_cons_self ..)
    have hno := hasC_small hS0 hyS
    have htk : sumL (l.take (i + 1)) = sumL (l.take i) + 2 ^ l[i].toNat := by
      rw [List.take_add_one, List.getElem?_eq_getElem hlt]
      exact sumL_snoc _ _
    have hdr : ∀ x ∈ l.drop (i + 1), l[i] < x := by
      have h1 := hasc.sublist (List.drop_sublist i l)
      rw [List.drop_eq_getElem_cons hlt, List.pairwise_cons] at h1
      exact h1.1
    have hp : (2 : Int) ^ l[i].toNat ≤ 256 := by
      have := low9 (n := l[i].toNat) (by omega)
      rcases this with e | e | e | e | e | e | e | e | e <;> rw [e] <;> decide
    have hp0 : (0 : Int) < 2 ^ l[i].toNat := Int.pow_pos (by decide)
    have hiv : (iv l)[i]? = some (.int .i64 (l[i].toNat : Int)) := by
      rw [iv_get hlt, Int.toNat_of_nonneg (by omega)]
    have hno' : hasC (sumL (l.take i)) (l[i].toNat : Int) = false := by rw [Int.toNat_of_nonneg (by omega)]; exact hno
    have hn8 : l[i].toNat ≤ 8 := by omega
    have hn1 : 1 ≤ l[i].toNat := by omega
    have hdr' : ∀ x ∈ l.drop (i + 1), (l[i].toNat : Int) < x := fun x hx => by have := hdr x hx; omega
    generalize l[i].toNat = k at *
    repeat'(first|refine kv' ?_|apply jJ|refine jE' ?_|refine jp' ?_|(apply jc;kernel_rfl)|refine kg' ?_|refine kG' ?_|refine kB' fun _=>?_|refine kA' fun _=>?_|refine kK' fun _=>?_|refine kU' ?_|(apply idxX;(iterate 2 exact rfl);(iterate 2(first|omega|(dsimp only;omega)));exact rfl)|(apply LR.ev; (· apply Ev.load_rd; (· exact rfl); (· repeat (first | exact mH _ _ | apply mT)); (· exact (by rw [show (i : Int).toNat * 1 = i by omega]; exact hiv))); (· exact rfl))|(apply addX;(iterate 2 exact rfl);(iterate 2(first|omega|(dsimp only;omega)));exact rfl)|(apply kq; (· exact rfl); (· intro w1 h1; first | (have hq := CallsTo.q (q50 (sumL (l.take i)) (k : Int) w1) h1; rw [hno'] at hq; exact hq) | exact CallsTo.q (q85 k w1 (by omega)) h1))|((first|refine kR' ?_ ?_|refine kQ' ?_ ?_);all_goals(intro hc;try simp only[hcs]at hc;try(exfalso;first|contradiction|omega))))
    refine At.again (i + 1) ⟨by omega, by rw [htk]; omega, fun x hx => ?_⟩ ?_ ⟨?_, rfl, trivial⟩ (fun w' hw' => hw') (by omega)
    · have h1 := hdr' x hx
      have h2 := pow_lt' (a := k) (b := x.toNat) (by omega)
      rw [htk]
      omega
    · (repeat (first | exact Out.refl _ _ | exact Out.mix | (apply Out.upd; (· exact rfl)) | (apply Out.updL; (· exact rfl)) | (apply Out.mixs; (· exact rfl))))
    · rw [htk]; rfl
  · have hie : i = l.length := by omega
    subst hie
    rw [List.take_length] at hS0 hSx ⊢
    repeat'(first|refine kv' ?_|apply jJ|refine jE' ?_|refine jp' ?_|(apply jc;kernel_rfl)|refine kg' ?_|refine kG' ?_|refine kB' fun _=>?_|refine kA' fun _=>?_|refine kK' fun _=>?_|refine kU' ?_|((first|refine kR' ?_ ?_|refine kQ' ?_ ?_);all_goals(intro hc;try simp only[hcs]at hc;try(exfalso;first|contradiction|omega))))
    (apply ret2; (· exact rfl); intro w' hS)
    exact ⟨rfl, hS.toKeep⟩
theorem q83 (c : Int) (w : World) : CallsTo Tryz.prog 49 [.int .i64 c] w fun v w' => v = .int .i64 (if crewOk c then 0 else 2) ∧ Grew w w' := by
  refine go_in (n := 14) (St.refl _ NoF) Tryz.func49 rfl rfl ?_
  have hk := sumB_ok c
  repeat'(first|refine kv' ?_|apply jJ|refine jE' ?_|refine jp' ?_|(apply jc;kernel_rfl)|refine kg' ?_|refine kG' ?_|refine kB' fun _=>?_|refine kA' fun _=>?_|refine kK' fun _=>?_|refine kU' ?_|((first|refine kR' ?_ ?_|refine kQ' ?_ ?_);all_goals(intro hc;try simp only[hcs]at hc;try(exfalso;first|contradiction|omega))))
  apply LR.call
  · exact rfl
  intro w1 h1
  refine (q109 c w1).mono ?_
  rintro v w2 ⟨a1, c1, rfl, hn⟩
  refine LR.back (h1.newSl hn) ?_
  clear hn h1
  repeat'(first|refine kv' ?_|apply jJ|refine jE' ?_|refine jp' ?_|(apply jc;kernel_rfl)|refine kg' ?_|refine kG' ?_|refine kB' fun _=>?_|refine kA' fun _=>?_|refine kK' fun _=>?_|refine kU' ?_|(apply kq; (· exact rfl); (· intro w1 h1; exact CallsTo.q (q108 a1 c1 c w1 (h1.rd_of_own memZ)) h1))|((first|refine kR' ?_ ?_|refine kQ' ?_ ?_);all_goals(intro hc;try simp only[hcs]at hc;try(exfalso;first|contradiction|omega))))
  all_goals (
    (apply ret1; (· exact rfl); intro w' hS)
    refine ⟨congrArg (Value.int .i64) ?_, hS.toKeep⟩
    first
      | (rw [if_pos (hk.1 (by assumption))])
      | (rw [if_neg (fun h => absurd (hk.2 h) (by assumption))]))
end Go.Proofs.YtkolmkdbjagfcaaGreat

namespace Go.Proofs.YtkolmkdbjagfcaaGreat
open Go.Hb
attribute [local irreducible] LR CW At Ev thn blk finK noG again CallsTo DW QL dnext TW DP
set_option maxRecDepth 100000

theorem bv_take (l : List Int) (k : Nat) : (bv l).take k = bv (l.take k) := by unfold bv; rw [List.map_take]
set_option maxHeartbeats 2000000 in
theorem p65 (a : Option Addr) (c : Nat) (b : List Int) (w : World) (hr : Rd w a (bv b)) (hb : Byt b) (hz : a = none → c = 0) (hc : b.length ≤ c) (hm : b.length ≤ 140737488355000) :
    CallsTo Tryz.prog 57 [.slice a b.length c] w fun v w' => ∃ a' c', v = .tuple [.slice a' (openL b).1.length c', .int .i64 (openL b).2].toArray ∧ NewSl w w' (.slice a' (openL b).1.length c') 5 1 (openL b).1.length (bv (openL b).1) := by
  refine go_in (n := 21) (St.rd1 hr) Tryz.func57 rfl rfl ?_
  by_cases h4 : b.length < 4
  · repeat'(first|refine kv' ?_|apply jJ|refine jE' ?_|refine jp' ?_|(apply jc;kernel_rfl)|refine kg' ?_|refine kG' ?_|refine kB' fun _=>?_|refine kA' fun _=>?_|refine kK' fun _=>?_|refine kU' ?_|(apply subX;(iterate 2 exact rfl);(iterate 2(first|omega|(dsimp only;omega)));exact rfl)|((first|refine kR' ?_ ?_|refine kQ' ?_ ?_);all_goals(intro hc;try simp only[hcs]at hc;try(exfalso;first|contradiction|omega))))
    (apply ret2; (· exact rfl); intro w' hS)
    have e : openL b = ([], 3) := by unfold openL; rw [if_pos h4]
    rw [e]
    exact ⟨none, 0, rfl, (hS.nilsl 5 1).toNew (mH _ _)⟩
  · obtain ⟨bg, og, rfl⟩ := hr.form (fun e => by have h2 := congrArg List.length e; simp only [bv, List.length_map, List.length_nil] at h2; omega)
    obtain ⟨l, hl⟩ : ∃ l, b.take (b.length - 4) = l := ⟨_, rfl⟩
    have hll : l.length = b.length - 4 := by rw [← hl, List.length_take]; omega
    have hlb : Byt l := fun x hx => hb x (by rw [← hl] at hx; exact List.mem_of_mem_take hx)
    have hrl : ∀ {L : List Asrt} {w1 : World}, St w NoF L w1 → rdA (some ⟨bg, og, none⟩) (bv b) ∈ L → Rd w1 (some ⟨bg, og, none⟩) (bv l) := fun h1 hm => by
      have := rd_take (h1.rd_of hm) (b.length - 4)
      rwa [bv_take, hl] at this
    by_cases hs : sealL l = b
    · have e : openL b = (l, 0) := by unfold openL; rw [if_neg h4, hl, if_pos hs]
      rw [e]
      repeat'(first|refine kv' ?_|apply jJ|refine jE' ?_|refine jp' ?_|(apply jc;kernel_rfl)|refine kg' ?_|refine kG' ?_|refine kB' fun _=>?_|refine kA' fun _=>?_|refine kK' fun _=>?_|refine kU' ?_|(apply subX;(iterate 2 exact rfl);(iterate 2(first|omega|(dsimp only;omega)));exact rfl)|(apply LR.ev; (· exact Ev.slice_hi0 (a := some ⟨bg, og, none⟩) (c := c) (j := l.length) subA_zero (by omega) (by omega) rfl rfl); (· exact rfl))|(apply LR.call; (· exact rfl); (intro w1 h1; refine (p34 (some ⟨bg, og, none⟩) c l w1 (hrl h1 memZ) hlb (fun e => by cases e) (by omega)).mono ?_; rintro v w2 ⟨a1, c1, rfl, hn⟩; refine LR.back (h1.newSl hn) ?_; clear hn h1 w2 w1))|(apply kq; (· exact rfl); (· intro w1 h1; have hq := CallsTo.q (p98 a1 (some ⟨bg, og, none⟩) c1 c (sealL l) b w1 (h1.rd_of_own memZ) (h1.rd_of memZ) (by rw [sealL_len]; omega)) h1; rw [decide_eq_true hs] at hq; exact hq))|(apply LR.call; (· exact rfl); (intro w1 h1; refine (c86 (some ⟨bg, og, none⟩) c l w1 (hrl h1 memZ) (fun e => by cases e) (by omega)).mono ?_; rintro v w2 ⟨a2, c2, rfl, hn⟩; refine LR.back (h1.newSl hn) ?_; clear hn h1 w2 w1))|((first|refine kR' ?_ ?_|refine kQ' ?_ ?_);all_goals(intro hc;try simp only[hcs]at hc;try(exfalso;first|contradiction|omega))))
      (apply ret2; (· exact rfl); intro w' hS)
      exact ⟨a2, c2, rfl, hS.toNew (mH _ _)⟩
    · have e : openL b = ([], 60) := by unfold openL; rw [if_neg h4, hl, if_neg hs]
      rw [e]
      repeat'(first|refine kv' ?_|apply jJ|refine jE' ?_|refine jp' ?_|(apply jc;kernel_rfl)|refine kg' ?_|refine kG' ?_|refine kB' fun _=>?_|refine kA' fun _=>?_|refine kK' fun _=>?_|refine kU' ?_|(apply subX;(iterate 2 exact rfl);(iterate 2(first|omega|(dsimp only;omega)));exact rfl)|(apply LR.ev; (· exact Ev.slice_hi0 (a := some ⟨bg, og, none⟩) (c := c) (j := l.length) subA_zero (by omega) (by omega) rfl rfl); (· exact rfl))|(apply LR.call; (· exact rfl); (intro w1 h1; refine (p34 (some ⟨bg, og, none⟩) c l w1 (hrl h1 memZ) hlb (fun e => by cases e) (by omega)).mono ?_; rintro v w2 ⟨a1, c1, rfl, hn⟩; refine LR.back (h1.newSl hn) ?_; clear hn h1 w2 w1))|(apply kq; (· exact rfl); (· intro w1 h1; have hq := CallsTo.q (p98 a1 (some ⟨bg, og, none⟩) c1 c (sealL l) b w1 (h1.rd_of_own memZ) (h1.rd_of memZ) (by rw [sealL_len]; omega)) h1; rw [decide_eq_false hs] at hq; exact hq))|((first|refine kR' ?_ ?_|refine kQ' ?_ ?_);all_goals(intro hc;try simp only[hcs]at hc;try(exfalso;first|contradiction|omega))))
      (apply ret2; (· exact rfl); intro w' hS)
      exact ⟨none, 0, rfl, (hS.nilsl 5 1).toNew (mH _ _)⟩
theorem p88 (n l m : Int) (w : World) : CallsTo Tryz.prog 75 [.int .i64 n, .int .i64 l, .int .i64 m] w fun v w' => v = .bool (decide (l ≤ n ∧ n ≤ m)) ∧ Grew w w' := by
  refine go_in (n := 15) (St.refl _ NoF) Tryz.func75 rfl rfl ?_
  repeat'(first|refine kv' ?_|apply jJ|refine jE' ?_|refine jp' ?_|(apply jc;kernel_rfl)|refine kg' ?_|refine kG' ?_|refine kB' fun _=>?_|refine kA' fun _=>?_|refine kK' fun _=>?_|refine kU' ?_|((first|refine kR' ?_ ?_|refine kQ' ?_ ?_);all_goals(intro hc;try simp only[hcs]at hc;try(exfalso;first|contradiction|omega))))
  all_goals (
    (apply ret1; (· exact rfl); intro w' hS)
    refine ⟨congrArg Value.bool ?_, hS.toKeep⟩
    rw [Bool.eq_iff_iff]
    simp only [decide_eq_true_eq, Bool.false_eq_true, false_iff, iff_false]
    omega)
def nodeB (n : Int) : Bool := decide (1 ≤ n ∧ n ≤ 8)
theorem p59 (n : Int) (w : World) : CallsTo Tryz.prog 36 [.int .i64 n] w fun v w' => v = .bool (nodeB n) ∧ Grew w w' := by
  refine go_in (n := 5) (St.refl _ NoF) Tryz.func36 rfl rfl ?_
  repeat'(first|refine kv' ?_|apply jJ|refine jE' ?_|refine jp' ?_|(apply jc;kernel_rfl)|refine kg' ?_|refine kG' ?_|refine kB' fun _=>?_|refine kA' fun _=>?_|refine kK' fun _=>?_|refine kU' ?_|(apply kq;(·exact rfl);(·intro w1 h1;exact CallsTo.q (p88 _ _ _ w1) h1))|((first|refine kR' ?_ ?_|refine kQ' ?_ ?_);all_goals(intro hc;try simp only[hcs]at hc;try(exfalso;first|contradiction|omega))))
  (apply ret1; (· exact rfl); intro w' hS)
  exact ⟨rfl, hS.toKeep⟩
theorem p64 (s r : Int) (w : World) : CallsTo Tryz.prog 42 [.agg [.int .i64 s, .int .i64 r].toArray] w fun v w' => v = .bool (liveR s r) ∧ Grew w w' := by
  refine go_in (n := 11) (St.refl _ NoF) Tryz.func42 rfl rfl ?_
  repeat'(first|refine kv' ?_|apply jJ|refine jE' ?_|refine jp' ?_|(apply jc;kernel_rfl)|refine kg' ?_|refine kG' ?_|refine kB' fun _=>?_|refine kA' fun _=>?_|refine kK' fun _=>?_|refine kU' ?_|(apply kq;(·exact rfl);(·intro w1 h1;exact CallsTo.q (c81 _ _ w1) h1))|((first|refine kR' ?_ ?_|refine kQ' ?_ ?_);all_goals(intro hc;try simp only[hcs]at hc;try(exfalso;first|contradiction|omega))))
  all_goals (
    (apply ret1; (· exact rfl); intro w' hS)
    refine ⟨congrArg Value.bool ?_, hS.toKeep⟩
    unfold liveR
    simp_all)
theorem numB_dec (x : Int) : decide (0 ≤ x ∧ x ≤ 9007199254740991) = numB x := by unfold numB; simp
set_option maxHeartbeats 1000000 in
theorem p62 (a : Option Addr) (c : Nat) (l : List Int) (w : World) (hr : Rd w a (iv l)) (hm : l.length ≤ 1000) : CallsTo Tryz.prog 40 [.slice a l.length c] w fun v w' => v = .bool (l.all numB) ∧ Grew w w' := by
  refine go_in (n := 15) (St.rd1 hr) Tryz.func40 rfl rfl ?_
  repeat'(first|refine kv' ?_|apply jJ|refine jE' ?_|refine jp' ?_|(apply jc;kernel_rfl)|refine kg' ?_|refine kG' ?_|refine kB' fun _=>?_|refine kA' fun _=>?_|refine kK' fun _=>?_|refine kU' ?_|((first|refine kR' ?_ ?_|refine kQ' ?_ ?_);all_goals(intro hc;try simp only[hcs]at hc;try(exfalso;first|contradiction|omega))))
  apply CW.loop [2, 4, 7, 8, 9, 10, 11, 12, 13, 14] (fun i : Nat => i ≤ l.length ∧ l.all numB = (l.drop i).all numB) (fun i : Nat => [(7, Value.int .i64 i)]) (fun i => St w NoF [rdA a (iv l)]) (fun i => l.length - i)
  · exact fun w' hw' => ⟨0, ⟨by omega, by simp⟩, ⟨rfl, trivial⟩, hw'⟩
  intro i g ⟨hi, heq⟩
  by_cases hlt : i < l.length
  · obtain ⟨ba, oa, rfl⟩ := hr.form (fun e => by have := congrArg List.length e; simp only [iv_length, List.length_nil] at this; omega)
    have hd : (l.drop i).all numB = (numB l[i] && (l.drop (i + 1)).all numB) := by rw [List.drop_eq_getElem_cons hlt, List.all_cons]
    cases hn : numB l[i]
    · repeat'(first|refine kv' ?_|apply jJ|refine jE' ?_|refine jp' ?_|(apply jc;kernel_rfl)|refine kg' ?_|refine kG' ?_|refine kB' fun _=>?_|refine kA' fun _=>?_|refine kK' fun _=>?_|refine kU' ?_|(apply idxX;(iterate 2 exact rfl);(iterate 2(first|omega|(dsimp only;omega)));exact rfl)|(apply LR.ev; (· apply Ev.load_rd; (· exact rfl); (· repeat (first | exact mH _ _ | apply mT)); (· exact iv_at (i := i) (by simp) (by omega))); (· exact rfl))|(apply addX;(iterate 2 exact rfl);(iterate 2(first|omega|(dsimp only;omega)));exact rfl)|(apply kq; (· exact rfl); (· intro w1 h1; have hq := CallsTo.q (p88 l[i] 0 9007199254740991 w1) h1; rw [numB_dec, hn] at hq; exact hq))|((first|refine kR' ?_ ?_|refine kQ' ?_ ?_);all_goals(intro hc;try simp only[hcs]at hc;try(exfalso;first|contradiction|omega))))
      (apply ret1; (· exact rfl); intro w' hS)
      refine ⟨congrArg Value.bool ?_, hS.toKeep⟩
      rw [heq, hd, hn]
      rfl
    · repeat'(first|refine kv' ?_|apply jJ|refine jE' ?_|refine jp' ?_|(apply jc;kernel_rfl)|refine kg' ?_|refine kG' ?_|refine kB' fun _=>?_|refine kA' fun _=>?_|refine kK' fun _=>?_|refine kU' ?_|(apply idxX;(iterate 2 exact rfl);(iterate 2(first|omega|(dsimp only;omega)));exact rfl)|(apply LR.ev; (· apply Ev.load_rd; (· exact rfl); (· repeat (first | exact mH _ _ | apply mT)); (· exact iv_at (i := i) (by simp) (by omega))); (· exact rfl))|(apply addX;(iterate 2 exact rfl);(iterate 2(first|omega|(dsimp only;omega)));exact rfl)|(apply kq; (· exact rfl); (· intro w1 h1; have hq := CallsTo.q (p88 l[i] 0 9007199254740991 w1) h1; rw [numB_dec, hn] at hq; exact hq))|((first|refine kR' ?_ ?_|refine kQ' ?_ ?_);all_goals(intro hc;try simp only[hcs]at hc;try(exfalso;first|contradiction|omega))))
      refine At.again (i + 1) ⟨by omega, by rw [heq, hd, hn]; rfl⟩ ?_ ⟨rfl, trivial⟩ (fun w' hw' => hw') (by omega)
      (repeat (first | exact Out.refl _ _ | exact Out.mix | (apply Out.upd; (· exact rfl)) | (apply Out.updL; (· exact rfl)) | (apply Out.mixs; (· exact rfl))))
  · have hie : i = l.length := by omega
    subst hie
    repeat'(first|refine kv' ?_|apply jJ|refine jE' ?_|refine jp' ?_|(apply jc;kernel_rfl)|refine kg' ?_|refine kG' ?_|refine kB' fun _=>?_|refine kA' fun _=>?_|refine kK' fun _=>?_|refine kU' ?_|((first|refine kR' ?_ ?_|refine kQ' ?_ ?_);all_goals(intro hc;try simp only[hcs]at hc;try(exfalso;first|contradiction|omega))))
    (apply ret1; (· exact rfl); intro w' hS)
    refine ⟨congrArg Value.bool ?_, hS.toKeep⟩
    rw [heq]
    simp
def mayD (d : Dat) : Bool := liveR d.rseq d.rrep && decide (0 < d.seq) && [d.seq, d.stamp].all numB && nodeB d.sender && decide (check d.msg = 0)
set_option maxHeartbeats 2000000 in
theorem p58 (d : Dat) (a : Option Addr) (c : Nat) (w : World) (hr : Rd w a (bv d.msg.body)) (hz : a = none → c = 0) (hm : d.msg.body.length ≤ 140737488355328) (hb : Byt d.msg.body) :
    CallsTo Tryz.prog 35 [d.val a c] w fun v w' => v = .bool (mayD d) ∧ Grew w w' := by
  refine go_in (n := 30) (St.rd1 hr) Tryz.func35 rfl rfl ?_
  repeat'(first|(apply kB;(iterate 2 exact rfl);intro bd)|(apply Go.Hb.kK;(iterate 4 exact rfl);intro bs)|refine kv' ?_|apply jJ|refine jE' ?_|refine jp' ?_|(apply jc;kernel_rfl)|refine kg' ?_|refine kG' ?_|refine kB' fun _=>?_|refine kA' fun _=>?_|refine kK' fun _=>?_|refine kU' ?_|(apply kq; (· exact rfl); (· intro w1 h1; first | exact CallsTo.q (p64 d.rseq d.rrep w1) h1 | exact CallsTo.q (p59 d.sender w1) h1 | exact CallsTo.q (p62 (some ⟨bs, 0, none⟩) 2 [d.seq, d.stamp] w1 (h1.rd_of_blk memZ) (by simp)) h1 | exact CallsTo.q (show CallsTo Tryz.prog 86 [d.msg.val a c] w1 _ from d17 d.msg a c w1 (h1.rd_of memZ) hz hm hb) h1))|((first|refine kR' ?_ ?_|refine kQ' ?_ ?_);all_goals(intro hc;try simp only[hcs]at hc;try(exfalso;first|contradiction|omega))))
  all_goals (
    (apply ret1; (· exact rfl); intro w' hS)
    refine ⟨congrArg Value.bool ?_, hS.toKeep⟩
    unfold mayD
    simp_all
    try (intros; omega))
end Go.Proofs.YtkolmkdbjagfcaaGreat

namespace Go.Hb
def eq3V : Value → Value → Option Bool
  | .agg ⟨[.int .i64 a, .int .i64 b, .int .i64 c]⟩, .agg ⟨[.int .i64 a', .int .i64 b', .int .i64 c']⟩ => some (decide ([a, b, c] = [a', b', c']))
  | _, _ => none
def eq6V : Value → Value → Option Bool
  | .agg ⟨[.int .i64 a, .int .i64 b, .int .i64 c, .int .i64 d, .int .i64 e, .int .i64 g]⟩, .agg ⟨[.int .i64 a', .int .i64 b', .int .i64 c', .int .i64 d', .int .i64 e', .int .i64 g']⟩ => some (decide ([a, b, c, d, e, g] = [a', b', c', d', e', g']))
  | _, _ => none
theorem eq3V_inv {v u : Value} {r : Bool} (h : eq3V v u = some r) : ∃ xs ys : List Int, v = .agg (xs.map (Value.int .i64)).toArray ∧ u = .agg (ys.map (Value.int .i64)).toArray ∧ xs.length = 3 ∧ ys.length = 3 ∧ r = decide (xs = ys) := by
  unfold eq3V at h; split at h
  · rename_i a b c a' b' c'; cases h; exact ⟨[a, b, c], [a', b', c'], rfl, rfl, rfl, rfl, rfl⟩
  · cases h
theorem eq6V_inv {v u : Value} {r : Bool} (h : eq6V v u = some r) : ∃ xs ys : List Int, v = .agg (xs.map (Value.int .i64)).toArray ∧ u = .agg (ys.map (Value.int .i64)).toArray ∧ xs.length = 6 ∧ ys.length = 6 ∧ r = decide (xs = ys) := by
  unfold eq6V at h; split at h
  · rename_i a b c d e g a' b' c' d' e' g'; cases h; exact ⟨[a, b, c, d, e, g], [a', b', c', d', e', g'], rfl, rfl, rfl, rfl, rfl⟩
  · cases h
instance {P : Program} {T : TypeId} [h : Eqs P T 3] : EqOf P T eq3V where
  eq := fun hb => by obtain ⟨_, _, h1, h2, h3, h4, rfl⟩ := eq3V_inv hb; exact Ev.structs h1 h2 h3 h4
  ne := fun hb => by obtain ⟨_, _, h1, h2, h3, h4, rfl⟩ := eq3V_inv hb; exact Ev.structs_ne h1 h2 h3 h4
instance {P : Program} {T : TypeId} [h : Eqs P T 6] : EqOf P T eq6V where
  eq := fun hb => by obtain ⟨_, _, h1, h2, h3, h4, rfl⟩ := eq6V_inv hb; exact Ev.structs h1 h2 h3 h4
  ne := fun hb => by obtain ⟨_, _, h1, h2, h3, h4, rfl⟩ := eq6V_inv hb; exact Ev.structs_ne h1 h2 h3 h4
end Go.Hb

namespace Go.Hb
set_option linter.unusedSimpArgs false
set_option linter.unusedVariables false
inductive Jn (J : List Nat) : Frm → Frm → Prop
  | base (f : Frm) : Jn J f f
  | upd {f' f : Frm} {d : Nat} {v : Value} (h : Jn J f' f) (hd : J.contains d = true) : Jn J (Hb.upd f' d v) f
theorem Jn.same {J : List Nat} {f' f : Frm} (h : Jn J f' f) : ∀ t, J.contains t = false → f' t = f t := by
  induction h with
  | base f => exact fun t _ => rfl
  | @upd f' f d v h hd ih =>
    intro t ht
    rw [upd_ne _ _ _ _ (fun e => by subst e; rw [hd] at ht; cases ht)]
    exact ih t ht
section
variable {P : Program} {n : Nat} {ops : List Oper} {S : World → Prop} {K : Frm → Prop} {f : Frm}
theorem QL.cut {K1 : Frm → Prop} {r2 : List Nat} (h2 : ∀ f', K1 f' → QL P n ops S K r2 f') : ∀ {r1 : List Nat} {f : Frm}, QL P n ops S K1 r1 f → QL P n ops S K (r1 ++ r2) f
  | [], f, h => h2 f h
  | i :: r, f, h => by
    obtain ⟨o, v, h1, h3, h4, h5⟩ := h
    exact ⟨o, v, h1, h3, h4, QL.cut h2 h5⟩
theorem QL.join (J : List Nat) (d : Nat) (v : Value) (r1 r2 : List Nat) (h1 : QL P n ops S (fun f' => f' d = v ∧ Jn J f' f) r1 f) (h2 : ∀ g, QL P n ops S K r2 (Hb.upd (mix J g f) d v)) : QL P n ops S K (r1 ++ r2) f := by
  refine QL.cut (fun f' hf => ?_) h1
  have e : f' = Hb.upd (mix J f' f) d v := by
    funext t
    by_cases ht : t = d
    · subst ht; rw [upd_same]; exact hf.1
    · rw [upd_ne _ _ _ _ ht]
      unfold mix
      cases hc : J.contains t with
      | true => rfl
      | false => exact hf.2.same t hc
  rw [e]
  exact h2 f'
end
end Go.Hb

namespace Go.Hb
set_option linter.unusedSimpArgs false
set_option linter.unusedVariables false
abbrev ORow := Option Nat × List Nat × List Nat
def orow (ops : Array Oper) (o : Oper) : ORow := (o.dst, o.looksAt ops, (o.after.toList.filter fun e => Region.binds .any e).map fun e => e.on)
def tabOf (ops : List Oper) : List ORow := ops.map (orow ops.toArray)
def apartT (x y : ORow) : Bool :=
  (match x.1 with
   | some d => !y.2.1.contains d && y.1 != some d
   | none => true) &&
  (match y.1 with
   | some d => !x.2.1.contains d
   | none => true)
def statGo : Nat → Nat → List ORow → Bool
  | 0, _, _ => true
  | _ + 1, _, [] => false
  | k + 1, i, r :: rest => (r.2.2.all fun e => Nat.blt e i) && (rest.all fun s => s.2.2.contains i || apartT r s) && statGo k (i + 1) rest
theorem apart_of {ops : Array Oper} {x y : Oper} (h : apartT (orow ops x) (orow ops y) = true) : x.apart ops y = true := h
theorem headB_of {ops : List Oper} {D : List Nat} : ∀ (k i : Nat), (∀ x ∈ D, i + k ≤ x) → i + k ≤ ops.length → statGo k i ((tabOf ops).drop i) = true → headB ops.toArray (lst ops (D ++ List.range i)) (List.range' i k) = true
  | 0, i, _, _, _ => rfl
  | k + 1, i, hD, hl, h => by
    have hi : i < ops.length := by omega
    have hit : i < (tabOf ops).length := by unfold tabOf; rw [List.length_map]; exact hi
    rw [List.drop_eq_getElem_cons hit] at h
    simp only [statGo, Bool.and_eq_true] at h
    obtain ⟨⟨h1, h2⟩, h3⟩ := h
    have hrow : (tabOf ops)[i] = orow ops.toArray ops[i] := List.getElem_map (orow ops.toArray)
    rw [hrow] at h1 h2
    have ho : ops.toArray[i]? = some ops[i] := by simp [hi]
    rw [List.range'_succ]
    simp only [headB, Bool.and_eq_true]
    refine ⟨⟨?_, ?_⟩, ?_⟩
    · have : i ∈ Region.ready .any ops.toArray (lst ops (D ++ List.range i)) := by
        rw [mem_ready]
        refine ⟨?_, ops[i], ho, fun e he hb => ?_⟩
        · rw [lst_getD _ hi]
          have h9 : i ∉ D := fun hx => by have := hD i hx; omega
          simp [h9]
        · have h4 := List.all_eq_true.1 h1 e.on (List.mem_map.2 ⟨e, List.mem_filter.2 ⟨by simpa using he, hb⟩, rfl⟩)
          have h5 : e.on < i := by simpa using h4
          rw [lst_getD _ (by omega)]
          simp [h5]
      simpa using this
    · unfold Region.free
      rw [ho]
      simp only [List.all_eq_true, List.mem_range]
      intro j hj
      have hj : j < ops.length := by simpa using hj
      rcases Nat.lt_trichotomy j i with hlt | rfl | hgt
      · have : (lst ops (D ++ List.range i)).getD j true = true := by
          rw [lst_getD _ hj]
          simp [hlt]
        rw [this]
        simp
      · simp
      · have hoj : ops.toArray[j]? = some ops[j] := by simp [hj]
        have hm : orow ops.toArray ops[j] ∈ (tabOf ops).drop (i + 1) := by
          refine List.mem_iff_getElem?.2 ⟨j - (i + 1), ?_⟩
          rw [List.getElem?_drop, show i + 1 + (j - (i + 1)) = j by omega]
          unfold tabOf
          rw [List.getElem?_map, List.getElem?_eq_getElem hj]
          rfl
        have h4 := List.all_eq_true.1 h2 _ hm
        rw [hoj]
        rw [Bool.or_eq_true] at h4
        rw [Bool.or_eq_true]
        right
        simp only [Bool.or_eq_true]
        rcases h4 with h4 | h4
        · left
          have h5 : i ∈ (orow ops.toArray ops[j]).2.2 := by simpa using h4
          obtain ⟨e, he, hon⟩ := List.mem_map.1 h5
          obtain ⟨he1, he2⟩ := List.mem_filter.1 he
          refine Array.any_eq_true'.2 ⟨e, by simpa using he1, ?_⟩
          simp [he2, hon]
        · right
          exact apart_of h4
    · have e : (lst ops (D ++ List.range i)).setIfInBounds i true = lst ops (D ++ List.range (i + 1)) := by rw [List.range_succ, ← List.append_assoc, lst_snoc]
      rw [e]
      exact headB_of k (i + 1) (fun x hx => by have := hD x hx; omega) (by omega) h3
section
variable {P : Program} {n : Nat} {ops : List Oper} {Q : Post} {f : Frm} {C S : World → Prop}
theorem DW.quietR (D : List Nat) (k : Nat) (H : List Nat) (tab : List ORow) (ht : tabOf ops = tab) (hB : statGo k 0 tab = true) (hN : (Region.noSelect ops.toArray && Nat.ble (D.length + k) ops.length && D.all fun x => Nat.ble k x) = true) (hH : H = List.range k) (hS : ∀ w, C w → S w)
    (h : QL P n ops S (fun f' => DW P n ops Q (D ++ H) S f' C) H f) : DW P n ops Q D S f C := by
  subst ht
  simp only [Bool.and_eq_true] at hN
  have hk := Nat.le_of_ble_eq_true hN.1.2
  subst hH
  refine DW.quiet_aux _ D f C ?_ hN.1.1 (by rw [List.length_range]; exact hk) hS h
  have := headB_of (ops := ops) (D := D) k 0 (fun x hx => by have := List.all_eq_true.1 hN.2 x hx; rw [Nat.zero_add]; exact Nat.le_of_ble_eq_true this) (by omega) (by simpa using hB)
  rw [List.range_eq_range']
  simpa using this
end
end Go.Hb

namespace Go.Proofs.YtkolmkdbjagfcaaGreat
open Go.Hb
attribute [local irreducible] LR CW At Ev thn blk finK noG again CallsTo DW QL dnext TW DP
set_option maxRecDepth 100000

structure Tkn where
  r1 : Int
  r2 : Int
  hop : Int
  seq : Int
  aru : Int
  low : Int
  stamp : Int
  idle : Int
  ask : List Int
def Tkn.cells (t : Tkn) (a : Option Addr) (c : Nat) : List Value := [.int .i64 t.r1, .int .i64 t.r2, .int .i64 t.hop, .int .i64 t.seq, .int .i64 t.aru, .int .i64 t.low, .int .i64 t.stamp, .int .i64 t.idle, .slice a t.ask.length c]
def Tkn.val (t : Tkn) (a : Option Addr) (c : Nat) : Value := .agg (t.cells a c).toArray
structure Ent where
  node : Int
  o1 : Int
  o2 : Int
  aru : Int
  high : Int
  clock : Int
def Ent.nums (e : Ent) : List Int := [e.node, e.o1, e.o2, e.aru, e.high, e.clock]
def Ent.cells (e : Ent) : List Value := [.int .i64 e.node, .int .i64 e.o1, .int .i64 e.o2, .int .i64 e.aru, .int .i64 e.high, .int .i64 e.clock]
theorem Ent.cells_len (e : Ent) : e.cells.length = 6 := rfl
structure Cmt where
  r1 : Int
  r2 : Int
  mem : Int
  hop : Int
  ents : List Ent
def Cmt.cells (x : Cmt) (a : Option Addr) (c : Nat) : List Value := [.int .i64 x.r1, .int .i64 x.r2, .int .i64 x.mem, .int .i64 x.hop, .slice a x.ents.length c]
def Cmt.val (x : Cmt) (a : Option Addr) (c : Nat) : Value := .agg (x.cells a c).toArray
structure Pkt where
  kind : Int
  to : Int
  d : Dat
  t : Tkn
  j1 : Int
  j2 : Int
  j3 : Int
  c : Cmt
  b1 : Int
  b2 : Int
  b3 : Int
structure PAd where
  da : Option Addr
  dc : Nat
  ta : Option Addr
  tc : Nat
  ca : Option Addr
  cc : Nat
def Pkt.cells (p : Pkt) (A : PAd) : List Value :=
  [.int .i64 p.kind, .int .i64 p.to] ++ (p.d.cells A.da A.dc ++ (p.t.cells A.ta A.tc ++ ([.int .i64 p.j1, .int .i64 p.j2, .int .i64 p.j3] ++ (p.c.cells A.ca A.cc ++ [.int .i64 p.b1, .int .i64 p.b2, .int .i64 p.b3]))))
def Pkt.val (p : Pkt) (A : PAd) : Value := .agg (p.cells A).toArray
def dataS (d : Dat) : Bool := !decide ([d.rseq, d.rrep] = [0, 0]) || !decide (d.seq = 0) || !decide (d.sender = 0) || !decide (d.stamp = 0) || !decide (d.msg.kind = 0) || !decide (d.msg.origin = 0) || !decide (d.msg.life = 0) || !decide (d.msg.id = 0) || !decide (d.msg.part = 0) || !decide (d.msg.parts = 0) || !decide (d.msg.groups = 0) || d.msg.safe || !decide ([d.msg.stamp, d.msg.rseq, d.msg.rrep, d.msg.kseq] = [0, 0, 0, 0]) || decide (0 < d.msg.body.length)
def tokS (t : Tkn) : Bool := !decide ([t.r1, t.r2] = [0, 0]) || !decide (t.hop = 0) || !decide (t.seq = 0) || !decide (t.aru = 0) || !decide (t.low = 0) || !decide (t.stamp = 0) || !decide (t.idle = 0) || decide (0 < t.ask.length)
def comS (x : Cmt) : Bool := !decide ([x.r1, x.r2] = [0, 0]) || !decide (x.mem = 0) || !decide (x.hop = 0) || decide (0 < x.ents.length)
def joinS (p : Pkt) : Bool := !decide ([p.j1, p.j2, p.j3] = [0, 0, 0])
def beaS (p : Pkt) : Bool := !decide ([p.b1, p.b2, p.b3] = [0, 0, 0])
def tab57 : List ORow := [(some 16, [3], []), (some 17, [16], [0]), (some 18, [], []), (some 19, [17, 18], [1, 2]), (some 20, [19], [3]), (some 21, [3, 20], [4]), (some 22, [21, 20], [5, 4]), (some 23, [22, 20], [6, 4]), (some 24, [20, 23], [4, 7]), (some 25, [24], [8, 4]), (some 26, [3, 25], [9]), (some 27, [26, 25], [10, 9]), (some 28, [27, 25], [11, 9]), (some 29, [25, 28], [9, 12]), (some 30, [29], [13, 9]), (some 31, [3, 30], [14]), (some 32, [31, 30], [15, 14]), (some 33, [32, 30], [16, 14]), (some 34, [30, 33], [14, 17]), (some 35, [34], [18, 14]), (some 36, [4, 35], [19]), (some 37, [36, 35], [20, 19]), (some 38, [37, 35], [21, 19]), (some 39, [35, 38], [19, 22]), (some 40, [39], [23, 19]), (some 41, [4, 40], [24]), (some 42, [41, 40], [25, 24]), (some 43, [42, 40], [26, 24]), (some 44, [40, 43], [24, 27]), (some 45, [44], [28, 24]), (some 46, [4, 45], [29]), (some 47, [46, 45], [30, 29]), (some 48, [47, 45], [31, 29]), (some 49, [45, 48], [29, 32]), (some 50, [49], [33, 29]), (some 51, [4, 50], [34]), (some 52, [51, 50], [35, 34]), (some 53, [52, 50], [36, 34]), (some 54, [50, 53], [34, 37]), (some 55, [54], [38, 34]), (some 56, [4, 55], [39]), (some 57, [56, 55], [40, 39]), (some 58, [57, 55], [41, 39]), (some 59, [55, 58], [39, 42]), (some 60, [59], [43, 39]), (some 61, [4, 60], [44]), (some 62, [61, 60], [45, 44]), (some 63, [62, 60], [46, 44]), (some 64, [60, 63], [44, 47]), (some 65, [64], [48, 44]), (some 66, [4, 65], [49]), (some 67, [66, 65], [50, 49]), (some 68, [67, 65], [51, 49]), (some 69, [65, 68], [49, 52]), (some 70, [69], [53, 49]), (some 71, [4, 70], [54]), (some 72, [71, 70], [55, 54]), (some 73, [70, 72], [54, 56]), (some 74, [73], [57, 54]), (some 75, [4, 74], [58]), (some 76, [75, 74], [59, 58]), (some 77, [74], [58]), (some 78, [76, 77, 74], [60, 61, 58]), (some 79, [74, 78], [58, 62]), (some 80, [79], [63, 58]), (some 81, [4, 80], [64]), (some 82, [81, 80], [65, 64]), (some 83, [82, 80], [66, 64]), (some 84, [83, 80], [67, 64]), (some 85, [80, 84], [64, 68]), (some 86, [5], []), (some 87, [86], [70]), (some 88, [], []), (some 89, [87, 88], [71, 72]), (some 90, [89], [73, 64]), (some 91, [5, 90], [74]), (some 92, [91, 90], [75, 74]), (some 93, [92, 90], [76, 74]), (some 94, [90, 93], [74, 77]), (some 95, [94], [78, 74]), (some 96, [5, 95], [79]), (some 97, [96, 95], [80, 79]), (some 98, [97, 95], [81, 79]), (some 99, [95, 98], [79, 82]), (some 100, [99], [83, 79]), (some 101, [5, 100], [84]), (some 102, [101, 100], [85, 84]), (some 103, [102, 100], [86, 84]), (some 104, [100, 103], [84, 87]), (some 105, [104], [88, 84]), (some 106, [5, 105], [89]), (some 107, [106, 105], [90, 89]), (some 108, [107, 105], [91, 89]), (some 109, [105, 108], [89, 92]), (some 110, [109], [93, 89]), (some 111, [5, 110], [94]), (some 112, [111, 110], [95, 94]), (some 113, [112, 110], [96, 94]), (some 114, [110, 113], [94, 97]), (some 115, [114], [98, 94]), (some 116, [5, 115], [99]), (some 117, [116, 115], [100, 99]), (some 118, [117, 115], [101, 99]), (some 119, [115, 118], [99, 102]), (some 120, [119], [103, 99]), (some 121, [5, 120], [104]), (some 122, [121, 120], [105, 104]), (some 123, [122, 120], [106, 104]), (some 124, [123, 120], [107, 104]), (some 125, [120, 124], [104, 108]), (some 126, [1], []), (some 127, [126], [110]), (some 128, [], []), (some 129, [127, 128], [111, 112]), (some 130, [6], []), (some 131, [130], [114]), (some 132, [], []), (some 133, [131, 132], [115, 116]), (some 134, [133], [117, 104]), (some 135, [6, 134], [118]), (some 136, [135, 134], [119, 118]), (some 137, [136, 134], [120, 118]), (some 138, [134, 137], [118, 121]), (some 139, [138], [122, 118]), (some 140, [6, 139], [123]), (some 141, [140, 139], [124, 123]), (some 142, [141, 139], [125, 123]), (some 143, [139, 142], [123, 126]), (some 144, [143], [127, 123]), (some 145, [6, 144], [128]), (some 146, [145, 144], [129, 128]), (some 147, [146, 144], [130, 128]), (some 148, [147, 144], [131, 128]), (some 149, [144, 148], [128, 132]), (some 150, [1], []), (some 151, [150], [134]), (some 152, [], []), (some 153, [151, 152], [135, 136]), (some 154, [85, 125, 129, 149, 153], [69, 109, 113, 133, 137]), (none, [2, 154], [138, 128, 0, 1, 2, 3, 4, 5, 6, 7, 8, 9, 10, 11, 12, 13, 14, 15, 16, 17, 18, 19, 20, 21, 22, 23, 24, 25, 26, 27, 28, 29, 30, 31, 32, 33, 34, 35, 36, 37, 38, 39, 40, 41, 42, 43, 44, 45, 46, 47, 48, 49, 50, 51, 52, 53, 54, 55, 56, 57, 58, 59, 60, 61, 62, 63, 64, 65, 66, 67, 68, 69, 70, 71, 72, 73, 74, 75, 76, 77, 78, 79, 80, 81, 82, 83, 84, 85, 86, 87, 88, 89, 90, 91, 92, 93, 94, 95, 96, 97, 98, 99, 100, 101, 102, 103, 104, 105, 106, 107, 108, 109, 110, 111, 112, 113, 114, 115, 116, 117, 118, 119, 120, 121, 122, 123, 124, 125, 126, 127, 128, 129, 130, 131, 132, 133, 134, 135, 136, 137, 138])]
def shapeV (p : Pkt) : List Value := [.bool (dataS p.d), .bool (tokS p.t), .bool (joinS p), .bool (comS p.c), .bool (beaS p)]
set_option maxHeartbeats 8000000 in
theorem p57 (p : Pkt) (A : PAd) (w : World) : CallsTo Tryz.prog 34 [p.val A] w fun v w' => v = .agg (shapeV p).toArray ∧ Grew w w' := by
  refine go_in (n := 155) (St.refl _ NoF) Tryz.func34 rfl rfl ?_
  repeat'(first|(apply kB;(iterate 2 exact rfl);intro b1)|(apply CW.reg_heldC)|refine kv' ?_|apply jJ|refine jE' ?_|refine jp' ?_|(apply jc;kernel_rfl)|refine kg' ?_|refine kG' ?_|refine kB' fun _=>?_|refine kA' fun _=>?_|refine kK' fun _=>?_|refine kU' ?_|((first|refine kR' ?_ ?_|refine kQ' ?_ ?_);all_goals(intro hc;try simp only[hcs]at hc;try(exfalso;first|contradiction|omega))))
  all_goals (
    apply DW.quiet [0, 1, 2, 3, 4, 5, 6, 7, 8]
    · decide +kernel
    · first | exact fun _ h => h | exact fun _ h => St.sub h subZ
    repeat'(first|refine yv' ?_|refine uv' ?_|refine un' ?_|(refine us' ?_ ?_;all_goals(intro hc;try simp only[hcs]at hc;try(exfalso;first|contradiction|omega)))|apply QL.nil)
    all_goals (show DW _ _ _ _ _ _ _ _))
  apply DP.begin []
  refine DP.more (PI.lr 12 6 [] (fun b => .pointer (some ⟨b, 0, none⟩)) (fun b => [.own b (.cells [.int .i64 0, .int .i64 0, .int .i64 0, .int .i64 0, .slice none 0 0].toArray 38 (0, 0))]) rfl (fun b x hx => by simp only [List.mem_singleton] at hx; subst hx; rfl) ?_) ?_
  · intro h w2
    apply kA
    · exact rfl
    intro b
    apply kM
    exact At.made rfl
  refine DP.more (PI.lr 11 5 [] (fun b => .pointer (some ⟨b, 0, none⟩)) (fun b => [.own b (.cells [.int .i64 0, .int .i64 0, .int .i64 0, .int .i64 0, .int .i64 0, .int .i64 0, .int .i64 0, .int .i64 0, .slice none 0 0].toArray 33 (0, 0))]) rfl (fun b x hx => by simp only [List.mem_singleton] at hx; subst hx; rfl) ?_) ?_
  · intro h w2
    apply kA
    · exact rfl
    intro b
    apply kM
    exact At.made rfl
  refine DP.more (PI.lr 10 4 [] (fun b => .pointer (some ⟨b, 0, none⟩)) (fun b => [.own b (.cells [.int .i64 0, .int .i64 0, .int .i64 0, .int .i64 0, .int .i64 0, .int .i64 0, .int .i64 0, .bool false, .int .i64 0, .int .i64 0, .int .i64 0, .int .i64 0, .slice none 0 0].toArray 28 (0, 0))]) rfl (fun b x hx => by simp only [List.mem_singleton] at hx; subst hx; rfl) ?_) ?_
  · intro h w2
    apply kA
    · exact rfl
    intro b
    apply kM
    exact At.made rfl
  refine DP.more (PI.lr 9 3 [] (fun b => .pointer (some ⟨b, 0, none⟩)) (fun b => [.own b (.cells [.int .i64 0, .int .i64 0, .int .i64 0, .int .i64 0, .int .i64 0, .int .i64 0, .int .i64 0, .int .i64 0, .int .i64 0, .int .i64 0, .int .i64 0, .int .i64 0, .bool false, .int .i64 0, .int .i64 0, .int .i64 0, .int .i64 0, .slice none 0 0].toArray 30 (0, 0))]) rfl (fun b x hx => by simp only [List.mem_singleton] at hx; subst hx; rfl) ?_) ?_
  · intro h w2
    apply kA
    · exact rfl
    intro b
    apply kM
    exact At.made rfl
  refine DP.take 9 3 (fun b => .pointer (some ⟨b, 0, none⟩)) (fun b => [.own b (.cells [.int .i64 0, .int .i64 0, .int .i64 0, .int .i64 0, .int .i64 0, .int .i64 0, .int .i64 0, .int .i64 0, .int .i64 0, .int .i64 0, .int .i64 0, .int .i64 0, .bool false, .int .i64 0, .int .i64 0, .int .i64 0, .int .i64 0, .slice none 0 0].toArray 30 (0, 0))]) [10, 11, 12] [3, 4, 5, 6] [[], [], [], []] rfl rfl rfl rfl rfl rfl rfl (by decide +kernel) ⟨trivial, fun _ _ _ => trivial, ⟨trivial, fun _ _ _ => trivial, ⟨trivial, fun _ _ _ => trivial, ⟨trivial, fun _ _ _ => trivial, trivial⟩⟩⟩⟩ (fun A w' hA => St.sub hA (by simp only [List.cons_append, List.nil_append]; repeat (first | exact List.nil_sublist _ | exact List.Sublist.refl _ | apply List.Sublist.cons_cons | apply List.Sublist.cons))) (fun bp3 => ?_)
  refine DP.take 10 4 (fun b => .pointer (some ⟨b, 0, none⟩)) (fun b => [.own b (.cells [.int .i64 0, .int .i64 0, .int .i64 0, .int .i64 0, .int .i64 0, .int .i64 0, .int .i64 0, .bool false, .int .i64 0, .int .i64 0, .int .i64 0, .int .i64 0, .slice none 0 0].toArray 28 (0, 0))]) [11, 12] [4, 5, 6] [[], [], []] rfl rfl rfl rfl rfl rfl rfl (by decide +kernel) ⟨trivial, fun _ _ _ => trivial, ⟨trivial, fun _ _ _ => trivial, ⟨trivial, fun _ _ _ => trivial, trivial⟩⟩⟩ (fun A w' hA => St.sub hA (by simp only [List.cons_append, List.nil_append]; repeat (first | exact List.nil_sublist _ | exact List.Sublist.refl _ | apply List.Sublist.cons_cons | apply List.Sublist.cons))) (fun bp4 => ?_)
  refine DP.take 11 5 (fun b => .pointer (some ⟨b, 0, none⟩)) (fun b => [.own b (.cells [.int .i64 0, .int .i64 0, .int .i64 0, .int .i64 0, .int .i64 0, .int .i64 0, .int .i64 0, .int .i64 0, .slice none 0 0].toArray 33 (0, 0))]) [12] [5, 6] [[], []] rfl rfl rfl rfl rfl rfl rfl (by decide +kernel) ⟨trivial, fun _ _ _ => trivial, ⟨trivial, fun _ _ _ => trivial, trivial⟩⟩ (fun A w' hA => St.sub hA (by simp only [List.cons_append, List.nil_append]; repeat (first | exact List.nil_sublist _ | exact List.Sublist.refl _ | apply List.Sublist.cons_cons | apply List.Sublist.cons))) (fun bp5 => ?_)
  refine DP.take 12 6 (fun b => .pointer (some ⟨b, 0, none⟩)) (fun b => [.own b (.cells [.int .i64 0, .int .i64 0, .int .i64 0, .int .i64 0, .slice none 0 0].toArray 38 (0, 0))]) [] [6] [[]] rfl rfl rfl rfl rfl rfl rfl (by decide +kernel) ⟨trivial, fun _ _ _ => trivial, trivial⟩ (fun A w' hA => St.sub hA (by simp only [List.cons_append, List.nil_append]; repeat (first | exact List.nil_sublist _ | exact List.Sublist.refl _ | apply List.Sublist.cons_cons | apply List.Sublist.cons))) (fun bp6 => ?_)
  refine DP.nil ?_
  refine DW.castL (by simp only [List.cons_append, List.nil_append]; exact rfl) ?_
  all_goals (
    apply DW.loud 13
    · exact rfl
    · decide +kernel
    repeat'(first|refine kg' ?_|refine kG' ?_|apply kM|refine kv' ?_|refine kK' fun _=>?_|refine kU' ?_|refine kB' fun _=>?_|refine kA' fun _=>?_|(apply addX;(iterate 2 exact rfl);(iterate 2(first|omega|(dsimp only;omega)));exact rfl))
    all_goals (refine At.stage_same (fun _ h => St.sub h subZ) ?_))
  all_goals (
    apply DW.loud 14
    · exact rfl
    · decide +kernel
    repeat'(first|refine kg' ?_|refine kG' ?_|apply kM|refine kv' ?_|refine kK' fun _=>?_|refine kU' ?_|refine kB' fun _=>?_|refine kA' fun _=>?_|(apply addX;(iterate 2 exact rfl);(iterate 2(first|omega|(dsimp only;omega)));exact rfl))
    all_goals (refine At.stage_same (fun _ h => St.sub h subZ) ?_))
  all_goals (
    apply DW.loud 15
    · exact rfl
    · decide +kernel
    repeat'(first|refine kg' ?_|refine kG' ?_|apply kM|refine kv' ?_|refine kK' fun _=>?_|refine kU' ?_|refine kB' fun _=>?_|refine kA' fun _=>?_|(apply addX;(iterate 2 exact rfl);(iterate 2(first|omega|(dsimp only;omega)));exact rfl))
    all_goals (refine At.stage_same (fun _ h => St.sub h subZ) ?_))
  all_goals (
    apply DW.loud 16
    · exact rfl
    · decide +kernel
    repeat'(first|refine kg' ?_|refine kG' ?_|apply kM|refine kv' ?_|refine kK' fun _=>?_|refine kU' ?_|refine kB' fun _=>?_|refine kA' fun _=>?_|(apply addX;(iterate 2 exact rfl);(iterate 2(first|omega|(dsimp only;omega)));exact rfl))
    all_goals (refine At.stage_same (fun _ h => St.sub h subZ) ?_))
  all_goals (first | (apply DW.done_thn; (· decide +kernel)) | (apply DW.done; (· decide +kernel)))
  repeat'(first|(apply CW.reg_sinkC 139; (· exact rfl); (· decide +kernel))|refine kv' ?_|apply jJ|refine jE' ?_|refine jp' ?_|(apply jc;kernel_rfl)|refine kg' ?_|refine kG' ?_|refine kB' fun _=>?_|refine kA' fun _=>?_|refine kK' fun _=>?_|refine kU' ?_|((first|refine kR' ?_ ?_|refine kQ' ?_ ?_);all_goals(intro hc;try simp only[hcs]at hc;try(exfalso;first|contradiction|omega))))
  refine DW.quietR [139] 139 [0, 1, 2, 3, 4, 5, 6, 7, 8, 9, 10, 11, 12, 13, 14, 15, 16, 17, 18, 19, 20, 21, 22, 23, 24, 25, 26, 27, 28, 29, 30, 31, 32, 33, 34, 35, 36, 37, 38, 39, 40, 41, 42, 43, 44, 45, 46, 47, 48, 49, 50, 51, 52, 53, 54, 55, 56, 57, 58, 59, 60, 61, 62, 63, 64, 65, 66, 67, 68, 69, 70, 71, 72, 73, 74, 75, 76, 77, 78, 79, 80, 81, 82, 83, 84, 85, 86, 87, 88, 89, 90, 91, 92, 93, 94, 95, 96, 97, 98, 99, 100, 101, 102, 103, 104, 105, 106, 107, 108, 109, 110, 111, 112, 113, 114, 115, 116, 117, 118, 119, 120, 121, 122, 123, 124, 125, 126, 127, 128, 129, 130, 131, 132, 133, 134, 135, 136, 137, 138] tab57 (by kernel_rfl) (by decide +kernel) (by decide +kernel) (by rfl) (fun _ h => h) ?_
  refine QL.join [16, 17, 18, 19, 20, 21, 22, 23, 24, 25, 26, 27, 28, 29, 30, 31, 32, 33, 34, 35, 36, 37, 38, 39, 40, 41, 42, 43, 44, 45, 46, 47, 48, 49, 50, 51, 52, 53, 54, 55, 56, 57, 58, 59, 60, 61, 62, 63, 64, 65, 66, 67, 68, 69, 70, 71, 72, 73, 74, 75, 76, 77, 78, 79, 80, 81, 82, 83, 84, 85] 85 (.bool (dataS p.d)) [0, 1, 2, 3, 4, 5, 6, 7, 8, 9, 10, 11, 12, 13, 14, 15, 16, 17, 18, 19, 20, 21, 22, 23, 24, 25, 26, 27, 28, 29, 30, 31, 32, 33, 34, 35, 36, 37, 38, 39, 40, 41, 42, 43, 44, 45, 46, 47, 48, 49, 50, 51, 52, 53, 54, 55, 56, 57, 58, 59, 60, 61, 62, 63, 64, 65, 66, 67, 68, 69] [70, 71, 72, 73, 74, 75, 76, 77, 78, 79, 80, 81, 82, 83, 84, 85, 86, 87, 88, 89, 90, 91, 92, 93, 94, 95, 96, 97, 98, 99, 100, 101, 102, 103, 104, 105, 106, 107, 108, 109, 110, 111, 112, 113, 114, 115, 116, 117, 118, 119, 120, 121, 122, 123, 124, 125, 126, 127, 128, 129, 130, 131, 132, 133, 134, 135, 136, 137, 138] ?_ (fun g85 => ?_)
  · repeat'(first|refine yv' ?_|refine uv' ?_|refine un' ?_|(refine us' ?_ ?_;all_goals(intro hc;try simp only[hcs]at hc;try(exfalso;first|contradiction|omega)))|apply QL.nil)
    all_goals (refine ⟨?_, by repeat (first | exact Jn.base _ | (apply Jn.upd; case hd => exact rfl))⟩)
    all_goals (show Value.bool _ = Value.bool _; refine congrArg Value.bool ?_; simp_all [dataS, tokS, comS, joinS]; try omega)
  refine QL.join [86, 87, 88, 89, 90, 91, 92, 93, 94, 95, 96, 97, 98, 99, 100, 101, 102, 103, 104, 105, 106, 107, 108, 109, 110, 111, 112, 113, 114, 115, 116, 117, 118, 119, 120, 121, 122, 123, 124, 125] 125 (.bool (tokS p.t)) [70, 71, 72, 73, 74, 75, 76, 77, 78, 79, 80, 81, 82, 83, 84, 85, 86, 87, 88, 89, 90, 91, 92, 93, 94, 95, 96, 97, 98, 99, 100, 101, 102, 103, 104, 105, 106, 107, 108, 109] [110, 111, 112, 113, 114, 115, 116, 117, 118, 119, 120, 121, 122, 123, 124, 125, 126, 127, 128, 129, 130, 131, 132, 133, 134, 135, 136, 137, 138] ?_ (fun g125 => ?_)
  · repeat'(first|refine yv' ?_|refine uv' ?_|refine un' ?_|(refine us' ?_ ?_;all_goals(intro hc;try simp only[hcs]at hc;try(exfalso;first|contradiction|omega)))|apply QL.nil)
    all_goals (refine ⟨?_, by repeat (first | exact Jn.base _ | (apply Jn.upd; case hd => exact rfl))⟩)
    all_goals (show Value.bool _ = Value.bool _; refine congrArg Value.bool ?_; simp_all [dataS, tokS, comS, joinS]; try omega)
  refine QL.join [126, 127, 128, 129] 129 (.bool (joinS p)) [110, 111, 112, 113] [114, 115, 116, 117, 118, 119, 120, 121, 122, 123, 124, 125, 126, 127, 128, 129, 130, 131, 132, 133, 134, 135, 136, 137, 138] ?_ (fun g129 => ?_)
  · repeat'(first|refine yv' ?_|refine uv' ?_|refine un' ?_|(refine us' ?_ ?_;all_goals(intro hc;try simp only[hcs]at hc;try(exfalso;first|contradiction|omega)))|apply QL.nil)
    all_goals (refine ⟨?_, by repeat (first | exact Jn.base _ | (apply Jn.upd; case hd => exact rfl))⟩)
    all_goals (show Value.bool _ = Value.bool _; refine congrArg Value.bool ?_; simp_all [dataS, tokS, comS, joinS]; try omega)
  refine QL.join [130, 131, 132, 133, 134, 135, 136, 137, 138, 139, 140, 141, 142, 143, 144, 145, 146, 147, 148, 149] 149 (.bool (comS p.c)) [114, 115, 116, 117, 118, 119, 120, 121, 122, 123, 124, 125, 126, 127, 128, 129, 130, 131, 132, 133] [134, 135, 136, 137, 138] ?_ (fun g149 => ?_)
  · repeat'(first|refine yv' ?_|refine uv' ?_|refine un' ?_|(refine us' ?_ ?_;all_goals(intro hc;try simp only[hcs]at hc;try(exfalso;first|contradiction|omega)))|apply QL.nil)
    all_goals (refine ⟨?_, by repeat (first | exact Jn.base _ | (apply Jn.upd; case hd => exact rfl))⟩)
    all_goals (show Value.bool _ = Value.bool _; refine congrArg Value.bool ?_; simp_all [dataS, tokS, comS, joinS]; try omega)
  repeat'(first|refine yv' ?_|refine uv' ?_|refine un' ?_|(refine us' ?_ ?_;all_goals(intro hc;try simp only[hcs]at hc;try(exfalso;first|contradiction|omega)))|apply QL.nil)
  all_goals (show DW _ _ _ _ _ _ _ _)
  apply DW.done
  · decide +kernel
  apply At.sink
  repeat'(first|refine kv' ?_|apply jJ|refine jE' ?_|refine jp' ?_|(apply jc;kernel_rfl)|refine kg' ?_|refine kG' ?_|refine kB' fun _=>?_|refine kA' fun _=>?_|refine kK' fun _=>?_|refine kU' ?_|((first|refine kR' ?_ ?_|refine kQ' ?_ ?_);all_goals(intro hc;try simp only[hcs]at hc;try(exfalso;first|contradiction|omega))))
  (apply ret1c; (· exact rfl); (· exact inferInstance); (· exact rfl); (· (repeat (first | exact List.Mem.head _ | apply List.Mem.tail))); (· exact rfl); intro w' hS)
  exact ⟨rfl, hS.toKeep⟩
end Go.Proofs.YtkolmkdbjagfcaaGreat

namespace Go.Proofs.YtkolmkdbjagfcaaGreat
open Go.Hb
attribute [local irreducible] LR CW At Ev thn blk finK noG again CallsTo DW QL dnext TW DP
set_option maxRecDepth 100000

def askOk (seq : Int) : Int → List Int → Bool
  | _, [] => true
  | last, x :: r => decide (last + 1 ≤ x ∧ x ≤ seq) && askOk seq x r
theorem askOk_cons (seq last x : Int) (r : List Int) : askOk seq last (x :: r) = (decide (last + 1 ≤ x ∧ x ≤ seq) && askOk seq x r) := rfl
def tokHead (t : Tkn) : Bool := liveR t.r1 t.r2 && !decide (t.hop < 1) && [t.hop, t.seq, t.aru, t.stamp, t.idle].all numB && !decide (t.seq < t.aru) && decide (0 ≤ t.low ∧ t.low ≤ 8) && !decide (16 < t.ask.length)
def mayT (t : Tkn) : Bool := tokHead t && askOk t.seq 0 t.ask
set_option maxHeartbeats 4000000 in
theorem p60 (t : Tkn) (a : Option Addr) (c : Nat) (w : World) (hr : Rd w a (iv t.ask)) : CallsTo Tryz.prog 37 [t.val a c] w fun v w' => v = .bool (mayT t) ∧ Grew w w' := by
  refine go_in (n := 65) (St.rd1 hr) Tryz.func37 rfl rfl ?_
  cases hth : tokHead t
  · repeat'(first|(apply kB;(iterate 2 exact rfl);intro b1)|(apply Go.Hb.kK;(iterate 4 exact rfl);intro bs)|refine kv' ?_|apply jJ|refine jE' ?_|refine jp' ?_|(apply jc;kernel_rfl)|refine kg' ?_|refine kG' ?_|refine kB' fun _=>?_|refine kA' fun _=>?_|refine kK' fun _=>?_|refine kU' ?_|(apply kq; (· exact rfl); (· intro w1 h1; first | exact CallsTo.q (p64 t.r1 t.r2 w1) h1 | exact CallsTo.q (p88 t.low 0 8 w1) h1 | exact CallsTo.q (p62 (some ⟨bs, 0, none⟩) 5 [t.hop, t.seq, t.aru, t.stamp, t.idle] w1 (h1.rd_of_blk memZ) (by simp)) h1))|((first|refine kR' ?_ ?_|refine kQ' ?_ ?_);all_goals(intro hc;try simp only[hcs]at hc;try(exfalso;first|contradiction|omega))))
    all_goals try (exfalso; unfold tokHead at hth; simp_all; (try omega); done)
    all_goals (
      (apply ret1; (· exact rfl); intro w' hS)
      refine ⟨congrArg Value.bool ?_, hS.toKeep⟩
      unfold mayT
      rw [hth]
      rfl)
  · have hseq : 0 ≤ t.seq ∧ t.seq ≤ 9007199254740991 := by
      unfold tokHead at hth
      simp only [Bool.and_eq_true, List.all_cons] at hth
      have := hth.1.1.1.2.2.1
      unfold numB at this
      simpa using this
    have hlen : t.ask.length ≤ 16 := by
      unfold tokHead at hth
      simp only [Bool.and_eq_true, Bool.not_eq_true', decide_eq_false_iff_not] at hth
      omega
    have hmt : mayT t = askOk t.seq 0 t.ask := by unfold mayT; rw [hth]; rfl
    rw [hmt]
    repeat'(first|(apply kB;(iterate 2 exact rfl);intro b1)|(apply Go.Hb.kK;(iterate 4 exact rfl);intro bs)|refine kv' ?_|apply jJ|refine jE' ?_|refine jp' ?_|(apply jc;kernel_rfl)|refine kg' ?_|refine kG' ?_|refine kB' fun _=>?_|refine kA' fun _=>?_|refine kK' fun _=>?_|refine kU' ?_|(apply kq; (· exact rfl); (· intro w1 h1; first | exact CallsTo.q (p64 t.r1 t.r2 w1) h1 | exact CallsTo.q (p88 t.low 0 8 w1) h1 | exact CallsTo.q (p62 (some ⟨bs, 0, none⟩) 5 [t.hop, t.seq, t.aru, t.stamp, t.idle] w1 (h1.rd_of_blk memZ) (by simp)) h1))|((first|refine kR' ?_ ?_|refine kQ' ?_ ?_);all_goals(intro hc;try simp only[hcs]at hc;try(exfalso;first|contradiction|omega))))
    all_goals try (exfalso; unfold tokHead at hth; simp_all; (try omega); done)
    apply CW.loop [2, 3, 5, 52, 53, 54, 55, 56, 57, 58, 59, 60, 61, 62, 63, 64] (fun s : Nat × Int => s.1 ≤ t.ask.length ∧ 0 ≤ s.2 ∧ s.2 ≤ t.seq ∧ askOk t.seq 0 t.ask = askOk t.seq s.2 (t.ask.drop s.1)) (fun s => [(52, Value.int .i64 (s.1 : Int)), (3, Value.int .i64 s.2)])
      (fun _ => St w NoF [.own b1 (.cells (t.cells a c).toArray 33 (0, 0)), rdA a (iv t.ask)]) (fun s => t.ask.length - s.1)
    · intro w' hw'
      exact ⟨(0, 0), ⟨by simp, by simp, by simp only; omega, by simp⟩, ⟨rfl, rfl, trivial⟩, hw'.sub subZ⟩
    rintro ⟨i, last⟩ g1 ⟨hi, hl0, hls, heq⟩
    simp only at hi hl0 hls heq ⊢
    by_cases hlt : i < t.ask.length
    · obtain ⟨bg, og, rfl⟩ := hr.form (fun e => by have h2 := congrArg List.length e; simp only [iv_length, List.length_nil] at h2; omega)
      rw [List.drop_eq_getElem_cons hlt] at heq
      rw [askOk_cons] at heq
      cases hw1 : decide (last + 1 ≤ t.ask[i] ∧ t.ask[i] ≤ t.seq)
      · rw [hw1, Bool.false_and] at heq
        repeat'(first|refine kv' ?_|apply jJ|refine jE' ?_|refine jp' ?_|(apply jc;kernel_rfl)|refine kg' ?_|refine kG' ?_|refine kB' fun _=>?_|refine kA' fun _=>?_|refine kK' fun _=>?_|refine kU' ?_|(apply idxX;(iterate 2 exact rfl);(iterate 2(first|omega|(dsimp only;omega)));exact rfl)|(apply LR.ev; (· apply Ev.load_rd; (· exact rfl); (· repeat (first | exact mH _ _ | apply mT)); (· exact iv_at (i := i) (by simp) hlt)); (· exact rfl))|(apply addX;(iterate 2 exact rfl);(iterate 2(first|omega|(dsimp only;omega)));exact rfl)|(apply kq; (· exact rfl); (· intro w1 h1; have hq := CallsTo.q (p88 t.ask[i] (last + 1) t.seq w1) h1; rw [hw1] at hq; exact hq))|((first|refine kR' ?_ ?_|refine kQ' ?_ ?_);all_goals(intro hc;try simp only[hcs]at hc;try(exfalso;first|contradiction|omega))))
        (apply ret1; (· exact rfl); intro w' hS)
        exact ⟨congrArg Value.bool heq.symm, hS.toKeep⟩
      · rw [hw1, Bool.true_and] at heq
        rw [decide_eq_true_eq] at hw1
        repeat'(first|refine kv' ?_|apply jJ|refine jE' ?_|refine jp' ?_|(apply jc;kernel_rfl)|refine kg' ?_|refine kG' ?_|refine kB' fun _=>?_|refine kA' fun _=>?_|refine kK' fun _=>?_|refine kU' ?_|(apply idxX;(iterate 2 exact rfl);(iterate 2(first|omega|(dsimp only;omega)));exact rfl)|(apply LR.ev; (· apply Ev.load_rd; (· exact rfl); (· repeat (first | exact mH _ _ | apply mT)); (· exact iv_at (i := i) (by simp) hlt)); (· exact rfl))|(apply addX;(iterate 2 exact rfl);(iterate 2(first|omega|(dsimp only;omega)));exact rfl)|(apply kq; (· exact rfl); (· intro w1 h1; have hq := CallsTo.q (p88 t.ask[i] (last + 1) t.seq w1) h1; rw [decide_eq_true hw1] at hq; exact hq))|((first|refine kR' ?_ ?_|refine kQ' ?_ ?_);all_goals(intro hc;try simp only[hcs]at hc;try(exfalso;first|contradiction|omega))))
        refine At.again (i + 1, t.ask[i]) ⟨by simp only; omega, by simp only; omega, by simp only; omega, heq⟩ ?_ ⟨rfl, rfl, trivial⟩ (fun w' hw' => hw') (by simp only; omega)
        (repeat (first | exact Out.refl _ _ | exact Out.mix | (apply Out.upd; (· exact rfl)) | (apply Out.updL; (· exact rfl)) | (apply Out.mixs; (· exact rfl))))
    · have hie : i = t.ask.length := by omega
      subst hie
      rw [List.drop_length] at heq
      repeat'(first|refine kv' ?_|apply jJ|refine jE' ?_|refine jp' ?_|(apply jc;kernel_rfl)|refine kg' ?_|refine kG' ?_|refine kB' fun _=>?_|refine kA' fun _=>?_|refine kK' fun _=>?_|refine kU' ?_|((first|refine kR' ?_ ?_|refine kQ' ?_ ?_);all_goals(intro hc;try simp only[hcs]at hc;try(exfalso;first|contradiction|omega))))
      (apply ret1; (· exact rfl); intro w' hS)
      exact ⟨congrArg Value.bool heq.symm, hS.toKeep⟩
def crewN (c : Int) (k : Nat) : List Int := ((List.range k).map fun i : Nat => (i : Int)).filter (hasC c)
theorem crewN_succ (c : Int) (k : Nat) : crewN c (k + 1) = crewN c k ++ if hasC c (k : Int) then [(k : Int)] else [] := by
  unfold crewN
  rw [List.range_succ, List.map_append, List.filter_append]
  congr 1
  by_cases h : hasC c (k : Int) = true <;> simp [h]
theorem crewN_len (c : Int) (k : Nat) : (crewN c k).length ≤ k := by
  unfold crewN
  refine Nat.le_trans (List.length_filter_le _ _) ?_
  simp
theorem crewN_9 (c : Int) : crewN c 9 = crewL c := by
  unfold crewN crewL crewTo
  rw [List.range_succ_eq_map, List.map_cons, List.filter_cons, show hasC c ((0 : Nat) : Int) = false from rfl, List.map_map]
  rfl
set_option maxHeartbeats 1000000 in
theorem p97 (c : Int) (w : World) : CallsTo Tryz.prog 87 [.int .i64 c] w fun v w' => ∃ a' c', v = .slice a' (crewL c).length c' ∧ NewSl w w' (.slice a' (crewL c).length c') 3 1 (crewL c).length (iv (crewL c)) := by
  refine go_in (n := 17) (St.refl _ NoF) Tryz.func87 rfl rfl ?_
  repeat'(first|refine kv' ?_|apply jJ|refine jE' ?_|refine jp' ?_|(apply jc;kernel_rfl)|refine kg' ?_|refine kG' ?_|refine kB' fun _=>?_|refine kA' fun _=>?_|refine kK' fun _=>?_|refine kU' ?_|((first|refine kR' ?_ ?_|refine kQ' ?_ ?_);all_goals(intro hc;try simp only[hcs]at hc;try(exfalso;first|contradiction|omega))))
  apply CW.loop [3, 4, 5, 6, 7, 8, 9, 10, 11, 12, 13, 14, 15] (fun s : Cst => s.k ≤ 9) (fun s => [(3, .slice s.a (crewN c s.k).length s.c), (5, .int .i64 (s.k : Int))])
    (fun s => St w NoF [ilK s.a s.c (crewN c s.k)]) (fun s => 9 - s.k)
  · exact fun w' hw' => ⟨⟨0, none, 0⟩, by simp, ⟨rfl, rfl, trivial⟩, hw'.nilsl 3 1⟩
  rintro ⟨k, a2, c2⟩ g hk
  simp only at hk ⊢
  have hsu := crewN_succ c k
  have hle := crewN_len c k
  by_cases hlt : k < 9
  · cases hx : hasC c (k : Int)
    · rw [hx] at hsu
      simp only [Bool.false_eq_true, if_false, List.append_nil] at hsu
      repeat'(first|refine kv' ?_|apply jJ|refine jE' ?_|refine jp' ?_|(apply jc;kernel_rfl)|refine kg' ?_|refine kG' ?_|refine kB' fun _=>?_|refine kA' fun _=>?_|refine kK' fun _=>?_|refine kU' ?_|(apply kq; (· exact rfl); (· intro w1 h1; have hq := CallsTo.q (q23 c (k : Int) w1) h1; rw [hx] at hq; exact hq))|(apply addX;(iterate 2 exact rfl);(iterate 2(first|omega|(dsimp only;omega)));exact rfl)|((first|refine kR' ?_ ?_|refine kQ' ?_ ?_);all_goals(intro hc;try simp only[hcs]at hc;try(exfalso;first|contradiction|omega))))
      refine At.again (⟨k + 1, a2, c2⟩ : Cst) (by simp only; omega) ?_ ⟨?_, rfl, trivial⟩ ?_ (by simp only; omega)
      · (repeat (first | exact Out.refl _ _ | exact Out.mix | (apply Out.upd; (· exact rfl)) | (apply Out.updL; (· exact rfl)) | (apply Out.mixs; (· exact rfl))))
      · simp only
        rw [hsu]
        rfl
      · intro w' hw'
        simp only
        rw [hsu]
        exact hw'.sub subZ
    · rw [hx] at hsu
      simp only [if_true] at hsu
      generalize crewN c k = L at hsu hle ⊢
      repeat'(first|(apply Go.Hb.kK;(iterate 4 exact rfl);intro bs)|refine kv' ?_|apply jJ|refine jE' ?_|refine jp' ?_|(apply jc;kernel_rfl)|refine kg' ?_|refine kG' ?_|refine kB' fun _=>?_|refine kA' fun _=>?_|refine kK' fun _=>?_|refine kU' ?_|(apply kq; (· exact rfl); (· intro w1 h1; have hq := CallsTo.q (q23 c (k : Int) w1) h1; rw [hx] at hq; exact hq))|(apply addX;(iterate 2 exact rfl);(iterate 2(first|omega|(dsimp only;omega)));exact rfl)|(apply LR.append (xs := iv L) (news := [Value.int .i64 (k : Int)]) (m := 1); (· exact rfl); (· exact rfl); (· intro a' c'; (repeat (first | exact sH _ _ _ | apply sT))); (· exact fun w' hw' => hw'.rd_of_blk (mH _ _)); (· exact fun hx => by cases hx); (· exact rfl); (· exact rfl); (· omega); (· unfold maxLen; omega); (· exact rfl); (intro a3 c3))|((first|refine kR' ?_ ?_|refine kQ' ?_ ?_);all_goals(intro hc;try simp only[hcs]at hc;try(exfalso;first|contradiction|omega))))
      refine At.again (⟨k + 1, a3, c3⟩ : Cst) (by simp only; omega) ?_ ⟨?_, rfl, trivial⟩ ?_ (by simp only; omega)
      · (repeat (first | exact Out.refl _ _ | exact Out.mix | (apply Out.upd; (· exact rfl)) | (apply Out.updL; (· exact rfl)) | (apply Out.mixs; (· exact rfl))))
      · simp only
        rw [hsu]
        simp only [List.length_append, List.length_cons, List.length_nil]
        rfl
      · intro w' hw'
        simp only
        rw [hsu]
        have e : ilK a3 c3 (L ++ [(k : Int)]) = osl (.slice a3 (L.length + 1) c3) 3 1 (L.length + 1) (iv L ++ [Value.int .i64 (k : Int)]) := by simp [ilK, iv]
        rw [e]
        exact hw'.sub subZ
  · have hke : k = 9 := by omega
    subst hke
    rw [crewN_9]
    repeat'(first|refine kv' ?_|apply jJ|refine jE' ?_|refine jp' ?_|(apply jc;kernel_rfl)|refine kg' ?_|refine kG' ?_|refine kB' fun _=>?_|refine kA' fun _=>?_|refine kK' fun _=>?_|refine kU' ?_|((first|refine kR' ?_ ?_|refine kQ' ?_ ?_);all_goals(intro hc;try simp only[hcs]at hc;try(exfalso;first|contradiction|omega))))
    (apply ret1; (· exact rfl); intro w' hS)
    exact ⟨a2, c2, rfl, hS.toNew memZ⟩
end Go.Proofs.YtkolmkdbjagfcaaGreat

namespace Go.Proofs.YtkolmkdbjagfcaaGreat
open Go.Hb
attribute [local irreducible] LR CW At Ev thn blk finK noG again CallsTo DW QL dnext TW DP
set_option maxRecDepth 100000

def entOk (e : Ent) (n : Int) : Bool := decide (e.node = n) && liveR e.o1 e.o2 && [e.aru, e.high, e.clock].all numB && decide (e.aru ≤ e.high)
def entsOk : List Ent → List Int → Bool
  | [], _ => true
  | _ :: _, [] => false
  | e :: r, n :: l => entOk e n && entsOk r l
theorem entsOk_cons (e : Ent) (n : Int) (r : List Ent) (l : List Int) : entsOk (e :: r) (n :: l) = (entOk e n && entsOk r l) := rfl
def minE (a b : Int) : Int := if b < a then b else a
def comHead (x : Cmt) : Bool := crewOk x.mem && !decide (x.mem = 0) && liveR x.r1 x.r2
def comMid (x : Cmt) (to : Int) (l : List Int) : Bool :=
  decide (x.r2 = l.getD 0 0) && decide (1 ≤ x.hop ∧ x.hop ≤ 2 * (l.length : Int)) && decide ((x.ents.length : Int) = minE x.hop l.length) && decide (to = l.getD (x.hop.tmod l.length).toNat 0)
def mayCm (x : Cmt) (to : Int) : Bool := comHead x && comMid x to (crewL x.mem) && entsOk x.ents (crewL x.mem)
theorem tmod_bdP (i n : Int) (h : 0 < n) : -n < i.tmod n ∧ i.tmod n < n := by
  have h1 := Int.tmod_lt_of_pos i h
  have h2 := Int.lt_tmod_of_pos i h
  exact ⟨h2, h1⟩
theorem crewL_pos {m : Int} (h : crewOk m = true) (h0 : m ≠ 0) : 0 < (crewL m).length := by
  rcases Nat.eq_zero_or_pos (crewL m).length with h1 | h1
  · exfalso
    have h2 : crewL m = [] := List.eq_nil_of_length_eq_zero h1
    have h3 : sumL (crewL m) = sumB m := sumL_crew m 8 (by omega)
    rw [h2] at h3
    rw [← (sumB_ok m).2 h, ← h3] at h0
    exact h0 rfl
  · exact h1
set_option maxHeartbeats 8000000 in
theorem p63 (x : Cmt) (to : Int) (a : Option Addr) (c : Nat) (w : World) (hr : Rd w a (x.ents.flatMap Ent.cells)) (hI : -9223372036854775808 ≤ x.mem ∧ x.mem ≤ 9223372036854775807) :
    CallsTo Tryz.prog 41 [x.val a c, .int .i64 to] w fun v w' => v = .bool (mayCm x to) ∧ Grew w w' := by
  refine go_in (n := 105) (St.rd1 hr) Tryz.func41 rfl rfl ?_
  cases hh : comHead x
  · have hmt : mayCm x to = false := by unfold mayCm; rw [hh]; rfl
    rw [hmt]
    repeat'(first|(apply kB;(iterate 2 exact rfl);intro b1)|refine kv' ?_|apply jJ|refine jE' ?_|refine jp' ?_|(apply jc;kernel_rfl)|refine kg' ?_|refine kG' ?_|refine kB' fun _=>?_|refine kA' fun _=>?_|refine kK' fun _=>?_|refine kU' ?_|(apply kq; (· exact rfl); (· intro w1 h1; first | exact CallsTo.q (q61 x.mem w1 hI) h1 | exact CallsTo.q (p64 x.r1 x.r2 w1) h1))|((first|refine kR' ?_ ?_|refine kQ' ?_ ?_);all_goals(intro hc;try simp only[hcs]at hc;try(exfalso;first|contradiction|omega))))
    all_goals try (exfalso; unfold comHead at hh; simp_all; done)
    all_goals (
      (apply ret1; (· exact rfl); intro w' hS)
      exact ⟨rfl, hS.toKeep⟩)
  · have hh' := hh
    unfold comHead at hh'
    simp only [Bool.and_eq_true, Bool.not_eq_true', decide_eq_false_iff_not] at hh'
    obtain ⟨⟨hck, hm0⟩, hlv⟩ := hh'
    have hlp := crewL_pos hck hm0
    have hl8 : (crewL x.mem).length ≤ 8 := crewTo_len x.mem 8
    have hq61 : (if crewOk x.mem = true then (0 : Int) else 2) = 0 := by rw [if_pos hck]
    have hmt : mayCm x to = (comMid x to (crewL x.mem) && entsOk x.ents (crewL x.mem)) := by unfold mayCm; rw [hh]; rfl
    rw [hmt]
    repeat'(first|(apply kB;(iterate 2 exact rfl);intro b1)|refine kv' ?_|apply jJ|refine jE' ?_|refine jp' ?_|(apply jc;kernel_rfl)|refine kg' ?_|refine kG' ?_|refine kB' fun _=>?_|refine kA' fun _=>?_|refine kK' fun _=>?_|refine kU' ?_|(apply kq; (· exact rfl); (· intro w1 h1; first | (have hq := CallsTo.q (q61 x.mem w1 hI) h1; rw [hq61] at hq; exact hq) | (have hq := CallsTo.q (p64 x.r1 x.r2 w1) h1; rw [hlv] at hq; exact hq)))|((first|refine kR' ?_ ?_|refine kQ' ?_ ?_);all_goals(intro hc;try simp only[hcs]at hc;try(exfalso;first|contradiction|omega))))
    apply LR.call
    · exact rfl
    intro w1 h1
    refine (p97 x.mem w1).mono ?_
    rintro v w2 ⟨a2, c2, rfl, hn⟩
    obtain ⟨l, hl⟩ : ∃ l, crewL x.mem = l := ⟨_, rfl⟩
    rw [hl] at hn hlp hl8 ⊢
    obtain ⟨bg, og, rfl⟩ := (ownsRow_rd (ownsRow_zero hn.own)).form (fun e => by have h2 := congrArg List.length e; simp only [iv_length, List.length_nil] at h2; omega)
    refine LR.back (h1.newSl hn) ?_
    clear hn h1
    have hl0 : (iv l)[(0 : Int).toNat * 1]? = some (.int .i64 (l.getD 0 0)) := by
      rw [show (0 : Int).toNat * 1 = 0 from rfl, iv_get hlp, List.getD_eq_getElem?_getD, List.getElem?_eq_getElem hlp]
      rfl
    have htm : 1 ≤ x.hop → 0 ≤ x.hop.tmod (l.length : Int) ∧ x.hop.tmod (l.length : Int) < (l.length : Int) := fun h => ⟨Int.tmod_nonneg _ (by omega), (tmod_bdP x.hop l.length (by omega)).2⟩
    have hlk : 1 ≤ x.hop → (iv l)[(x.hop.tmod (l.length : Int)).toNat * 1]? = some (.int .i64 (l.getD (x.hop.tmod (l.length : Int)).toNat 0)) := fun h => by
      have h2 := htm h
      rw [Nat.mul_one, iv_get (by omega), List.getD_eq_getElem?_getD, List.getElem?_eq_getElem (by omega)]
      rfl
    repeat'(first|(apply CW.reg_heldC)|refine kv' ?_|apply jJ|refine jE' ?_|refine jp' ?_|(apply jc;kernel_rfl)|refine kg' ?_|refine kG' ?_|refine kB' fun _=>?_|refine kA' fun _=>?_|refine kK' fun _=>?_|refine kU' ?_|((first|refine kR' ?_ ?_|refine kQ' ?_ ?_);all_goals(intro hc;try simp only[hcs]at hc;try(exfalso;first|contradiction|omega))))
    all_goals (
      apply DW.quiet [0, 1, 2, 3, 4, 5, 6, 7, 8, 9, 10, 11, 12]
      · decide +kernel
      · first | exact fun _ h => h | exact fun _ h => St.sub h subZ
      repeat'(first|refine yv' ?_|(apply QL.ev; (· exact rfl); (· first | (apply Ev.indexAddr; (· exact rfl); (· exact rfl); (· omega); (· omega)) | (apply Ev.load_osl; (· exact rfl); (· (repeat (first | exact mH _ _ | apply mT))); (· first | exact hl0 | exact hlk (by omega))) | (apply Ev.rem; (· exact rfl); (· exact rfl); (· omega)) | (apply Ev.mul; (· exact rfl); (· exact rfl); (· omega); (· omega)) | (exact Ev.min2 rfl rfl)); (· exact rfl))|(apply QL.evg; (· exact rfl); (· exact rfl); (· exact rfl); (· first | (apply Ev.indexAddr; (· exact rfl); (· exact rfl); (· omega); (· omega)) | (apply Ev.load_osl; (· exact rfl); (· (repeat (first | exact mH _ _ | apply mT))); (· first | exact hl0 | exact hlk (by omega))) | (apply Ev.rem; (· exact rfl); (· exact rfl); (· omega)) | (apply Ev.mul; (· exact rfl); (· exact rfl); (· omega); (· omega)) | (exact Ev.min2 rfl rfl)); (· exact rfl))|refine uv' ?_|refine un' ?_|(refine us' ?_ ?_;all_goals(intro hc;try simp only[hcs]at hc;try(exfalso;first|contradiction|omega)))|apply QL.nil)
      all_goals (show DW _ _ _ _ _ _ _ _))
    all_goals (
      apply DW.loud 13
      · exact rfl
      · decide +kernel
      repeat'(first|refine kg' ?_|refine kG' ?_|apply kM|refine kv' ?_|refine kK' fun _=>?_|refine kU' ?_|refine kB' fun _=>?_|refine kA' fun _=>?_|(apply kq; (· exact rfl); (· intro w1 h1; exact CallsTo.q (p88 x.hop 1 (2 * (l.length : Int)) w1) h1)))
      all_goals (refine At.stage_same (fun _ h => St.sub h subZ) ?_))
    all_goals (
      apply DW.quiet [14, 15, 16, 17, 18, 19, 20, 21, 22, 23, 24, 25, 26, 27, 28, 29, 30, 31, 32, 33, 34, 35, 36, 37, 38]
      · decide +kernel
      · first | exact fun _ h => h | exact fun _ h => St.sub h subZ
      repeat'(first|refine yv' ?_|(apply QL.ev; (· exact rfl); (· first | (apply Ev.indexAddr; (· exact rfl); (· exact rfl); (· omega); (· omega)) | (apply Ev.load_osl; (· exact rfl); (· (repeat (first | exact mH _ _ | apply mT))); (· first | exact hl0 | exact hlk (by omega))) | (apply Ev.rem; (· exact rfl); (· exact rfl); (· omega)) | (apply Ev.mul; (· exact rfl); (· exact rfl); (· omega); (· omega)) | (exact Ev.min2 rfl rfl)); (· exact rfl))|(apply QL.evg; (· exact rfl); (· exact rfl); (· exact rfl); (· first | (apply Ev.indexAddr; (· exact rfl); (· exact rfl); (· omega); (· omega)) | (apply Ev.load_osl; (· exact rfl); (· (repeat (first | exact mH _ _ | apply mT))); (· first | exact hl0 | exact hlk (by omega))) | (apply Ev.rem; (· exact rfl); (· exact rfl); (· omega)) | (apply Ev.mul; (· exact rfl); (· exact rfl); (· omega); (· omega)) | (exact Ev.min2 rfl rfl)); (· exact rfl))|refine uv' ?_|refine un' ?_|(refine us' ?_ ?_;all_goals(intro hc;try simp only[hcs]at hc;try(exfalso;first|contradiction|omega)))|apply QL.nil)
      all_goals (show DW _ _ _ _ _ _ _ _))
    all_goals (first | (apply DW.done_thn; (· decide +kernel)) | (apply DW.done; (· decide +kernel)))
    repeat'(first|refine kv' ?_|apply jJ|refine jE' ?_|refine jp' ?_|(apply jc;kernel_rfl)|refine kg' ?_|refine kG' ?_|refine kB' fun _=>?_|refine kA' fun _=>?_|refine kK' fun _=>?_|refine kU' ?_|((first|refine kR' ?_ ?_|refine kQ' ?_ ?_);all_goals(intro hc;try simp only[hcs]at hc;try(exfalso;first|contradiction|omega))))
    all_goals try (
      (apply ret1; (· exact rfl); intro w' hS)
      refine ⟨congrArg Value.bool ?_, hS.toKeep⟩
      cases hcm : comMid x to l
      · rfl
      · exfalso
        unfold comMid minE at hcm
        simp only [Bool.and_eq_true, decide_eq_true_eq] at hcm
        obtain ⟨⟨⟨g1, g2⟩, g3⟩, g4⟩ := hcm
        first | exact absurd g1 (by assumption) | exact absurd g2 (by assumption) | exact absurd g3 (by assumption) | exact absurd g4 (by assumption))
    have hcm : comMid x to l = true := by
      unfold comMid minE
      simp only [Bool.and_eq_true, decide_eq_true_eq]
      exact ⟨⟨⟨by assumption, by assumption⟩, by assumption⟩, by assumption⟩
    have hel : x.ents.length ≤ l.length ∧ x.ents.length ≤ 1000 := by
      unfold comMid minE at hcm
      simp only [Bool.and_eq_true, decide_eq_true_eq] at hcm
      have := hcm.1.2
      split at this <;> omega
    rw [hcm, Bool.true_and]
    apply CW.loop [4, 6, 7, 68, 69, 70, 71, 72, 73, 74, 75, 76, 77, 78, 79, 80, 81, 82, 83, 84, 85, 86, 87, 88, 89, 90, 91, 92, 93, 94, 95, 96, 97, 98, 99, 100, 101, 102, 103, 104] (fun i : Nat => i ≤ x.ents.length ∧ entsOk x.ents l = entsOk (x.ents.drop i) (l.drop i)) (fun i => [(68, Value.int .i64 (i : Int))])
      (fun _ => St w NoF [osl (.slice (some ⟨bg, og, none⟩) l.length c2) 3 1 l.length (iv l), rdA a (x.ents.flatMap Ent.cells)]) (fun i => x.ents.length - i)
    · intro w' hw'
      exact ⟨0, ⟨by simp, by simp⟩, ⟨rfl, trivial⟩, hw'.sub subZ⟩
    intro i g1 ⟨hi, heq⟩
    by_cases hlt : i < x.ents.length
    · have hil : i < l.length := by omega
      obtain ⟨be, oe, rfl⟩ := hr.form (rows_ne Ent.cells_len (by omega) hlt)
      rw [List.drop_eq_getElem_cons hlt, List.drop_eq_getElem_cons hil, entsOk_cons] at heq
      obtain ⟨e, he⟩ : ∃ e, x.ents[i] = e := ⟨_, rfl⟩
      have hcl : ∀ w', Rd w' (some ⟨be, oe, none⟩) (x.ents.flatMap Ent.cells) → ∀ j v, e.cells[j]? = some v → w'.cell? ((⟨be, oe + (i : Int).toNat * 6, none⟩ : Addr).add j) = some v := fun w' h => by
        rw [← he]
        exact rd_row Ent.cells_len h hlt (by omega)
      rw [he] at heq
      have hnv : (iv l)[(i : Int).toNat * 1]? = some (.int .i64 l[i]) := iv_at (by omega) hil
      obtain ⟨n, hn⟩ : ∃ n, l[i] = n := ⟨_, rfl⟩
      rw [hn] at hnv heq
      repeat'(first|(apply CW.reg_heldC)|refine kv' ?_|apply jJ|refine jE' ?_|refine jp' ?_|(apply jc;kernel_rfl)|refine kg' ?_|refine kG' ?_|refine kB' fun _=>?_|refine kA' fun _=>?_|refine kK' fun _=>?_|refine kU' ?_|(apply idxX;(iterate 2 exact rfl);(iterate 2(first|omega|(dsimp only;omega)));exact rfl)|(apply LR.ev; (· apply Ev.load_agg_at (cs := e.cells); (· exact rfl); (· exact rfl); (· intro w' hw'; exact hcl w' (hw'.rd_of memZ))); (· exact rfl))|((first|refine kR' ?_ ?_|refine kQ' ?_ ?_);all_goals(intro hc;try simp only[hcs]at hc;try(exfalso;first|contradiction|omega))))
      all_goals (
        apply DW.quiet [0, 1, 2, 3, 4, 5, 6, 7, 8, 9]
        · decide +kernel
        · first | exact fun _ h => h | exact fun _ h => St.sub h subZ
        repeat'(first|refine yv' ?_|(apply QL.ev; (· exact rfl); (· first | (apply Ev.indexAddr; (· exact rfl); (· exact rfl); (· omega); (· omega)) | (apply Ev.load_osl; (· exact rfl); (· (repeat (first | exact mH _ _ | apply mT))); (· exact hnv))); (· exact rfl))|refine uv' ?_|refine un' ?_|(refine us' ?_ ?_;all_goals(intro hc;try simp only[hcs]at hc;try(exfalso;first|contradiction|omega)))|apply QL.nil)
        all_goals (show DW _ _ _ _ _ _ _ _))
      all_goals (
        apply DW.loud 10
        · exact rfl
        · decide +kernel
        repeat'(first|(apply Go.Hb.kK;(iterate 4 exact rfl);intro b93)|refine kg' ?_|refine kG' ?_|apply kM|refine kv' ?_|refine kK' fun _=>?_|refine kU' ?_|refine kB' fun _=>?_|refine kA' fun _=>?_|(apply kq; (· exact rfl); (· intro w1 h1; first | exact CallsTo.q (p64 e.o1 e.o2 w1) h1 | exact CallsTo.q (p62 (some ⟨b93, 0, none⟩) 3 [e.aru, e.high, e.clock] w1 (h1.rd_of_blk memZ) (by simp)) h1)))
        all_goals (refine At.stage_same (fun _ h => St.sub h subZ) ?_))
      all_goals (
        apply DW.quiet [11, 12, 13, 14, 15, 16, 17, 18, 19]
        · decide +kernel
        · first | exact fun _ h => h | exact fun _ h => St.sub h subZ
        repeat'(first|refine yv' ?_|(apply QL.ev; (· exact rfl); (· first | (apply Ev.indexAddr; (· exact rfl); (· exact rfl); (· omega); (· omega)) | (apply Ev.load_osl; (· exact rfl); (· (repeat (first | exact mH _ _ | apply mT))); (· exact hnv))); (· exact rfl))|refine uv' ?_|refine un' ?_|(refine us' ?_ ?_;all_goals(intro hc;try simp only[hcs]at hc;try(exfalso;first|contradiction|omega)))|apply QL.nil)
        all_goals (show DW _ _ _ _ _ _ _ _))
      all_goals (
        apply DW.loud 20
        · exact rfl
        · decide +kernel
        repeat'(first|(apply Go.Hb.kK;(iterate 4 exact rfl);intro b93)|refine kg' ?_|refine kG' ?_|apply kM|refine kv' ?_|refine kK' fun _=>?_|refine kU' ?_|refine kB' fun _=>?_|refine kA' fun _=>?_|(apply kq; (· exact rfl); (· intro w1 h1; first | exact CallsTo.q (p64 e.o1 e.o2 w1) h1 | exact CallsTo.q (p62 (some ⟨b93, 0, none⟩) 3 [e.aru, e.high, e.clock] w1 (h1.rd_of_blk memZ) (by simp)) h1)))
        all_goals (refine At.stage_same (fun _ h => St.sub h subZ) ?_))
      all_goals (
        apply DW.loud 21
        · exact rfl
        · decide +kernel
        repeat'(first|(apply Go.Hb.kK;(iterate 4 exact rfl);intro b93)|refine kg' ?_|refine kG' ?_|apply kM|refine kv' ?_|refine kK' fun _=>?_|refine kU' ?_|refine kB' fun _=>?_|refine kA' fun _=>?_|(apply kq; (· exact rfl); (· intro w1 h1; first | exact CallsTo.q (p64 e.o1 e.o2 w1) h1 | exact CallsTo.q (p62 (some ⟨b93, 0, none⟩) 3 [e.aru, e.high, e.clock] w1 (h1.rd_of_blk memZ) (by simp)) h1)))
        all_goals (refine At.stage_same (fun _ h => St.sub h subZ) ?_))
      all_goals (
        apply DW.quiet [22, 23, 24, 25, 26, 27, 28, 29, 30]
        · decide +kernel
        · first | exact fun _ h => h | exact fun _ h => St.sub h subZ
        repeat'(first|refine yv' ?_|(apply QL.ev; (· exact rfl); (· first | (apply Ev.indexAddr; (· exact rfl); (· exact rfl); (· omega); (· omega)) | (apply Ev.load_osl; (· exact rfl); (· (repeat (first | exact mH _ _ | apply mT))); (· exact hnv))); (· exact rfl))|refine uv' ?_|refine un' ?_|(refine us' ?_ ?_;all_goals(intro hc;try simp only[hcs]at hc;try(exfalso;first|contradiction|omega)))|apply QL.nil)
        all_goals (show DW _ _ _ _ _ _ _ _))
      all_goals (first | (apply DW.done_thn; (· decide +kernel)) | (apply DW.done; (· decide +kernel)))
      repeat'(first|refine kv' ?_|apply jJ|refine jE' ?_|refine jp' ?_|(apply jc;kernel_rfl)|refine kg' ?_|refine kG' ?_|refine kB' fun _=>?_|refine kA' fun _=>?_|refine kK' fun _=>?_|refine kU' ?_|(apply addX;(iterate 2 exact rfl);(iterate 2(first|omega|(dsimp only;omega)));exact rfl)|((first|refine kR' ?_ ?_|refine kQ' ?_ ?_);all_goals(intro hc;try simp only[hcs]at hc;try(exfalso;first|contradiction|omega))))
      all_goals try (
        (apply ret1; (· exact rfl); intro w' hS)
        refine ⟨congrArg Value.bool ?_, hS.toKeep⟩
        rw [heq]
        cases hen : entOk e n
        · rfl
        · exfalso
          unfold entOk at hen
          simp only [Bool.and_eq_true, decide_eq_true_eq] at hen
          obtain ⟨⟨⟨g1, g2⟩, g3⟩, g4⟩ := hen
          first | exact absurd g1 (by assumption) | exact absurd (g2.symm.trans (show liveR e.o1 e.o2 = false by assumption)) (by decide) | exact absurd (g3.symm.trans (show [e.aru, e.high, e.clock].all numB = false by assumption)) (by decide) | omega)
      have hen : entOk e n = true := by
        unfold entOk
        simp only [Bool.and_eq_true, decide_eq_true_eq]
        exact ⟨⟨⟨by assumption, by assumption⟩, by assumption⟩, by omega⟩
      rw [hen, Bool.true_and] at heq
      refine At.again (i + 1) ⟨by omega, heq⟩ ?_ ⟨rfl, trivial⟩ (fun w' hw' => hw'.sub subZ) (by omega)
      (repeat (first | exact Out.refl _ _ | exact Out.mix | (apply Out.upd; (· exact rfl)) | (apply Out.updL; (· exact rfl)) | (apply Out.mixs; (· exact rfl))))
    · have hie : i = x.ents.length := by omega
      subst hie
      rw [List.drop_length] at heq
      repeat'(first|refine kv' ?_|apply jJ|refine jE' ?_|refine jp' ?_|(apply jc;kernel_rfl)|refine kg' ?_|refine kG' ?_|refine kB' fun _=>?_|refine kA' fun _=>?_|refine kK' fun _=>?_|refine kU' ?_|((first|refine kR' ?_ ?_|refine kQ' ?_ ?_);all_goals(intro hc;try simp only[hcs]at hc;try(exfalso;first|contradiction|omega))))
      (apply ret1; (· exact rfl); intro w' hS)
      exact ⟨congrArg Value.bool heq.symm, hS.toKeep⟩
end Go.Proofs.YtkolmkdbjagfcaaGreat

namespace Go.Proofs.YtkolmkdbjagfcaaGreat
open Go.Hb
attribute [local irreducible] LR CW At Ev thn blk finK noG again CallsTo DW QL dnext TW DP
set_option maxRecDepth 100000

theorem Ev.shape_ne {C : World → Prop} {f : Frm} {T T'' : TypeId} {x y : Operand} {a b c d e a' b' c' d' e' : Bool} (hx : f.ev x = .agg [.bool a, .bool b, .bool c, .bool d, .bool e].toArray) (hy : f.ev y = .agg [.bool a', .bool b', .bool c', .bool d', .bool e'].toArray) : Ev Tryz.prog C f (.binOp .neq 79 x y T'') T (.bool (!decide ([a, b, c, d, e] = [a', b', c', d', e']))) := by
  unfold Ev
  intro w _ dd p af g
  have key : (do eqGuard .neq 79 x y (.agg [.bool a, .bool b, .bool c, .bool d, .bool e].toArray) (.agg [.bool a', .bool b', .bool c', .bool d', .bool e'].toArray); binOp .neq 79 (.agg [.bool a, .bool b, .bool c, .bool d, .bool e].toArray) (.agg [.bool a', .bool b', .bool c', .bool d', .bool e'].toArray) : Sem Value).run Tryz.prog w = .ok (.bool (!decide ([a, b, c, d, e] = [a', b', c', d', e']))) w := by
    have e0 : decide ([a, b, c, d, e] = [a', b', c', d', e']) = (a == a' && (b == b' && (c == c' && (d == d' && e == e')))) := by
      rw [Bool.eq_iff_iff]
      simp
    rw [e0]
    simp [go_sem, Sem.run_bind, run_eqGuard_agg, run_eql_struct, run_neq_struct, run_equalIn_agg, run_equalIn_int, run_equalIn_bool, Tryz.underlying4, Tryz.underlying79, Tryz.stoodInHeld79, Tryz.eqGuardType79, Bool.and_assoc]
    repeat' split
    all_goals simp_all
  simp only [execOp, hx, hy]
  rw [Sem.run_bind, key]
  rfl
def shapeB (p : Pkt) : List Bool := [dataS p.d, tokS p.t, joinS p, comS p.c, beaS p]
def wantK (k : Int) : List Bool := [decide (k = 1), decide (k = 2), decide (k = 3), decide (k = 4), decide (k = 5)]
def mayP (p : Pkt) : Bool :=
  if p.kind = 1 then decide (p.to = 0) && mayD p.d
  else if p.kind = 2 then nodeB p.to && mayT p.t
  else if p.kind = 3 then decide (p.to = 0) && nodeB p.j1 && crewOk p.j2 && hasC p.j2 p.j1 && [p.j3].all numB
  else if p.kind = 4 then mayCm p.c p.to
  else if p.kind = 5 then decide (p.to = 0) && liveR p.b1 p.b2 && nodeB p.b3
  else false
def chkP (p : Pkt) : Bool := mayP p && decide (shapeB p = wantK p.kind)
structure PktR (w : World) (p : Pkt) (A : PAd) : Prop where
  hd : Rd w A.da (bv p.d.msg.body)
  hdz : A.da = none → A.dc = 0
  hdb : Byt p.d.msg.body
  hdm : p.d.msg.body.length ≤ 140737488351232
  ht : Rd w A.ta (iv p.t.ask)
  htz : A.ta = none → A.tc = 0
  htm : p.t.ask.length ≤ 17592186043904
  hc : Rd w A.ca (p.c.ents.flatMap Ent.cells)
  hcz : A.ca = none → A.cc = 0
  hcm : p.c.ents.length ≤ 2932031007317
def PktI (p : Pkt) : Prop := (-9223372036854775808 ≤ p.c.mem ∧ p.c.mem ≤ 9223372036854775807) ∧ (-9223372036854775808 ≤ p.j2 ∧ p.j2 ≤ 9223372036854775807)
theorem PktR.old {w w' : World} {L : List Asrt} {p : Pkt} {A : PAd} (h : PktR w p A) (hS : St w NoF L w') : PktR w' p A :=
  ⟨hS.oldRd h.hd, h.hdz, h.hdb, h.hdm, hS.oldRd h.ht, h.htz, h.htm, hS.oldRd h.hc, h.hcz, h.hcm⟩
theorem chk_no {p : Pkt} (h : mayP p = false ∨ ¬ shapeB p = wantK p.kind) : (if chkP p then (0 : Int) else 2) = 2 := by
  unfold chkP
  rcases h with h | h
  · rw [h]; rfl
  · rw [decide_eq_false h, Bool.and_false]; rfl
theorem chk_yes {p : Pkt} (h : mayP p = true) (h2 : shapeB p = wantK p.kind) : (if chkP p then (0 : Int) else 2) = 0 := by
  unfold chkP
  rw [h, decide_eq_true h2]; rfl
set_option maxHeartbeats 16000000 in
theorem p31 (p : Pkt) (A : PAd) (w : World) (hR : PktR w p A) (hI : PktI p) : CallsTo Tryz.prog 9 [p.val A] w fun v w' => v = .int .i64 (if chkP p then 0 else 2) ∧ Grew w w' := by
  refine go_in (n := 99) (St.refl _ NoF) Tryz.func9 rfl rfl ?_
  by_cases hk1 : p.kind = 1
  · repeat'(first|(apply kB;(iterate 2 exact rfl);intro b1)|(apply Go.Hb.kK;(iterate 4 exact rfl);intro bs)|refine kv' ?_|apply jJ|refine jE' ?_|refine jp' ?_|(apply jc;kernel_rfl)|refine kg' ?_|refine kG' ?_|refine kB' fun _=>?_|refine kA' fun _=>?_|refine kK' fun _=>?_|refine kU' ?_|(apply kq; (· exact rfl); (· intro w1 h1; first | exact CallsTo.q (p57 p A w1) h1 | exact CallsTo.q (show CallsTo Tryz.prog 35 [p.d.val A.da A.dc] w1 _ from p58 p.d A.da A.dc w1 (hR.old h1).hd hR.hdz (by have := hR.hdm; omega) hR.hdb) h1 | exact CallsTo.q (p59 p.to w1) h1 | exact CallsTo.q (show CallsTo Tryz.prog 37 [p.t.val A.ta A.tc] w1 _ from p60 p.t A.ta A.tc w1 (hR.old h1).ht) h1 | exact CallsTo.q (p59 p.j1 w1) h1 | exact CallsTo.q (q61 p.j2 w1 hI.2) h1 | exact CallsTo.q (q23 p.j2 p.j1 w1) h1 | exact CallsTo.q (p62 (some ⟨bs, 0, none⟩) 1 [p.j3] w1 (h1.rd_of_blk memZ) (by simp)) h1 | exact CallsTo.q (show CallsTo Tryz.prog 41 [p.c.val A.ca A.cc, .int .i64 p.to] w1 _ from p63 p.c p.to A.ca A.cc w1 (hR.old h1).hc hI.1) h1 | exact CallsTo.q (p64 p.b1 p.b2 w1) h1 | exact CallsTo.q (p59 p.b3 w1) h1))|(apply LR.ev; (· exact Ev.shape_ne (a := dataS p.d) (b := tokS p.t) (c := joinS p) (d := comS p.c) (e := beaS p) rfl rfl); (· exact rfl))|((first|refine kR' ?_ ?_|refine kQ' ?_ ?_);all_goals(intro hc;try simp only[hcs]at hc;try(exfalso;first|contradiction|omega))))
    all_goals (
      (apply ret1; (· exact rfl); intro w' hS)
      refine ⟨congrArg (Value.int .i64) ?_, hS.toKeep⟩
      have hw : wantK p.kind = [true, false, false, false, false] := by rw [hk1]; rfl
      have hm : mayP p = (decide (p.to = 0) && mayD p.d) := by
        unfold mayP
        rw [if_pos hk1]
      first
        | (refine (chk_no (.inr ?_)).symm; rw [hw]; unfold shapeB; simp_all; done)
        | (refine (chk_no (.inl ?_)).symm; rw [hm]; simp_all; done)
        | (refine (chk_yes ?_ ?_).symm; (· rw [hm]; simp_all; done); (· rw [hw]; unfold shapeB; simp_all; done)))
  by_cases hk2 : p.kind = 2
  · repeat'(first|(apply kB;(iterate 2 exact rfl);intro b1)|(apply Go.Hb.kK;(iterate 4 exact rfl);intro bs)|refine kv' ?_|apply jJ|refine jE' ?_|refine jp' ?_|(apply jc;kernel_rfl)|refine kg' ?_|refine kG' ?_|refine kB' fun _=>?_|refine kA' fun _=>?_|refine kK' fun _=>?_|refine kU' ?_|(apply kq; (· exact rfl); (· intro w1 h1; first | exact CallsTo.q (p57 p A w1) h1 | exact CallsTo.q (show CallsTo Tryz.prog 35 [p.d.val A.da A.dc] w1 _ from p58 p.d A.da A.dc w1 (hR.old h1).hd hR.hdz (by have := hR.hdm; omega) hR.hdb) h1 | exact CallsTo.q (p59 p.to w1) h1 | exact CallsTo.q (show CallsTo Tryz.prog 37 [p.t.val A.ta A.tc] w1 _ from p60 p.t A.ta A.tc w1 (hR.old h1).ht) h1 | exact CallsTo.q (p59 p.j1 w1) h1 | exact CallsTo.q (q61 p.j2 w1 hI.2) h1 | exact CallsTo.q (q23 p.j2 p.j1 w1) h1 | exact CallsTo.q (p62 (some ⟨bs, 0, none⟩) 1 [p.j3] w1 (h1.rd_of_blk memZ) (by simp)) h1 | exact CallsTo.q (show CallsTo Tryz.prog 41 [p.c.val A.ca A.cc, .int .i64 p.to] w1 _ from p63 p.c p.to A.ca A.cc w1 (hR.old h1).hc hI.1) h1 | exact CallsTo.q (p64 p.b1 p.b2 w1) h1 | exact CallsTo.q (p59 p.b3 w1) h1))|(apply LR.ev; (· exact Ev.shape_ne (a := dataS p.d) (b := tokS p.t) (c := joinS p) (d := comS p.c) (e := beaS p) rfl rfl); (· exact rfl))|((first|refine kR' ?_ ?_|refine kQ' ?_ ?_);all_goals(intro hc;try simp only[hcs]at hc;try(exfalso;first|contradiction|omega))))
    all_goals (
      (apply ret1; (· exact rfl); intro w' hS)
      refine ⟨congrArg (Value.int .i64) ?_, hS.toKeep⟩
      have hw : wantK p.kind = [false, true, false, false, false] := by rw [hk2]; rfl
      have hm : mayP p = (nodeB p.to && mayT p.t) := by
        unfold mayP
        rw [if_neg hk1, if_pos hk2]
      first
        | (refine (chk_no (.inr ?_)).symm; rw [hw]; unfold shapeB; simp_all; done)
        | (refine (chk_no (.inl ?_)).symm; rw [hm]; simp_all; done)
        | (refine (chk_yes ?_ ?_).symm; (· rw [hm]; simp_all; done); (· rw [hw]; unfold shapeB; simp_all; done)))
  by_cases hk3 : p.kind = 3
  · repeat'(first|(apply kB;(iterate 2 exact rfl);intro b1)|(apply Go.Hb.kK;(iterate 4 exact rfl);intro bs)|refine kv' ?_|apply jJ|refine jE' ?_|refine jp' ?_|(apply jc;kernel_rfl)|refine kg' ?_|refine kG' ?_|refine kB' fun _=>?_|refine kA' fun _=>?_|refine kK' fun _=>?_|refine kU' ?_|(apply kq; (· exact rfl); (· intro w1 h1; first | exact CallsTo.q (p57 p A w1) h1 | exact CallsTo.q (show CallsTo Tryz.prog 35 [p.d.val A.da A.dc] w1 _ from p58 p.d A.da A.dc w1 (hR.old h1).hd hR.hdz (by have := hR.hdm; omega) hR.hdb) h1 | exact CallsTo.q (p59 p.to w1) h1 | exact CallsTo.q (show CallsTo Tryz.prog 37 [p.t.val A.ta A.tc] w1 _ from p60 p.t A.ta A.tc w1 (hR.old h1).ht) h1 | exact CallsTo.q (p59 p.j1 w1) h1 | exact CallsTo.q (q61 p.j2 w1 hI.2) h1 | exact CallsTo.q (q23 p.j2 p.j1 w1) h1 | exact CallsTo.q (p62 (some ⟨bs, 0, none⟩) 1 [p.j3] w1 (h1.rd_of_blk memZ) (by simp)) h1 | exact CallsTo.q (show CallsTo Tryz.prog 41 [p.c.val A.ca A.cc, .int .i64 p.to] w1 _ from p63 p.c p.to A.ca A.cc w1 (hR.old h1).hc hI.1) h1 | exact CallsTo.q (p64 p.b1 p.b2 w1) h1 | exact CallsTo.q (p59 p.b3 w1) h1))|(apply LR.ev; (· exact Ev.shape_ne (a := dataS p.d) (b := tokS p.t) (c := joinS p) (d := comS p.c) (e := beaS p) rfl rfl); (· exact rfl))|((first|refine kR' ?_ ?_|refine kQ' ?_ ?_);all_goals(intro hc;try simp only[hcs]at hc;try(exfalso;first|contradiction|omega))))
    all_goals (
      (apply ret1; (· exact rfl); intro w' hS)
      refine ⟨congrArg (Value.int .i64) ?_, hS.toKeep⟩
      have hw : wantK p.kind = [false, false, true, false, false] := by rw [hk3]; rfl
      have hm : mayP p = (decide (p.to = 0) && nodeB p.j1 && crewOk p.j2 && hasC p.j2 p.j1 && [p.j3].all numB) := by
        unfold mayP
        rw [if_neg hk1, if_neg hk2, if_pos hk3]
      first
        | (refine (chk_no (.inr ?_)).symm; rw [hw]; unfold shapeB; simp_all; done)
        | (refine (chk_no (.inl ?_)).symm; rw [hm]; simp_all; done)
        | (refine (chk_yes ?_ ?_).symm; (· rw [hm]; simp_all; done); (· rw [hw]; unfold shapeB; simp_all; done)))
  by_cases hk4 : p.kind = 4
  · repeat'(first|(apply kB;(iterate 2 exact rfl);intro b1)|(apply Go.Hb.kK;(iterate 4 exact rfl);intro bs)|refine kv' ?_|apply jJ|refine jE' ?_|refine jp' ?_|(apply jc;kernel_rfl)|refine kg' ?_|refine kG' ?_|refine kB' fun _=>?_|refine kA' fun _=>?_|refine kK' fun _=>?_|refine kU' ?_|(apply kq; (· exact rfl); (· intro w1 h1; first | exact CallsTo.q (p57 p A w1) h1 | exact CallsTo.q (show CallsTo Tryz.prog 35 [p.d.val A.da A.dc] w1 _ from p58 p.d A.da A.dc w1 (hR.old h1).hd hR.hdz (by have := hR.hdm; omega) hR.hdb) h1 | exact CallsTo.q (p59 p.to w1) h1 | exact CallsTo.q (show CallsTo Tryz.prog 37 [p.t.val A.ta A.tc] w1 _ from p60 p.t A.ta A.tc w1 (hR.old h1).ht) h1 | exact CallsTo.q (p59 p.j1 w1) h1 | exact CallsTo.q (q61 p.j2 w1 hI.2) h1 | exact CallsTo.q (q23 p.j2 p.j1 w1) h1 | exact CallsTo.q (p62 (some ⟨bs, 0, none⟩) 1 [p.j3] w1 (h1.rd_of_blk memZ) (by simp)) h1 | exact CallsTo.q (show CallsTo Tryz.prog 41 [p.c.val A.ca A.cc, .int .i64 p.to] w1 _ from p63 p.c p.to A.ca A.cc w1 (hR.old h1).hc hI.1) h1 | exact CallsTo.q (p64 p.b1 p.b2 w1) h1 | exact CallsTo.q (p59 p.b3 w1) h1))|(apply LR.ev; (· exact Ev.shape_ne (a := dataS p.d) (b := tokS p.t) (c := joinS p) (d := comS p.c) (e := beaS p) rfl rfl); (· exact rfl))|((first|refine kR' ?_ ?_|refine kQ' ?_ ?_);all_goals(intro hc;try simp only[hcs]at hc;try(exfalso;first|contradiction|omega))))
    all_goals (
      (apply ret1; (· exact rfl); intro w' hS)
      refine ⟨congrArg (Value.int .i64) ?_, hS.toKeep⟩
      have hw : wantK p.kind = [false, false, false, true, false] := by rw [hk4]; rfl
      have hm : mayP p = (mayCm p.c p.to) := by
        unfold mayP
        rw [if_neg hk1, if_neg hk2, if_neg hk3, if_pos hk4]
      first
        | (refine (chk_no (.inr ?_)).symm; rw [hw]; unfold shapeB; simp_all; done)
        | (refine (chk_no (.inl ?_)).symm; rw [hm]; simp_all; done)
        | (refine (chk_yes ?_ ?_).symm; (· rw [hm]; simp_all; done); (· rw [hw]; unfold shapeB; simp_all; done)))
  by_cases hk5 : p.kind = 5
  · repeat'(first|(apply kB;(iterate 2 exact rfl);intro b1)|(apply Go.Hb.kK;(iterate 4 exact rfl);intro bs)|refine kv' ?_|apply jJ|refine jE' ?_|refine jp' ?_|(apply jc;kernel_rfl)|refine kg' ?_|refine kG' ?_|refine kB' fun _=>?_|refine kA' fun _=>?_|refine kK' fun _=>?_|refine kU' ?_|(apply kq; (· exact rfl); (· intro w1 h1; first | exact CallsTo.q (p57 p A w1) h1 | exact CallsTo.q (show CallsTo Tryz.prog 35 [p.d.val A.da A.dc] w1 _ from p58 p.d A.da A.dc w1 (hR.old h1).hd hR.hdz (by have := hR.hdm; omega) hR.hdb) h1 | exact CallsTo.q (p59 p.to w1) h1 | exact CallsTo.q (show CallsTo Tryz.prog 37 [p.t.val A.ta A.tc] w1 _ from p60 p.t A.ta A.tc w1 (hR.old h1).ht) h1 | exact CallsTo.q (p59 p.j1 w1) h1 | exact CallsTo.q (q61 p.j2 w1 hI.2) h1 | exact CallsTo.q (q23 p.j2 p.j1 w1) h1 | exact CallsTo.q (p62 (some ⟨bs, 0, none⟩) 1 [p.j3] w1 (h1.rd_of_blk memZ) (by simp)) h1 | exact CallsTo.q (show CallsTo Tryz.prog 41 [p.c.val A.ca A.cc, .int .i64 p.to] w1 _ from p63 p.c p.to A.ca A.cc w1 (hR.old h1).hc hI.1) h1 | exact CallsTo.q (p64 p.b1 p.b2 w1) h1 | exact CallsTo.q (p59 p.b3 w1) h1))|(apply LR.ev; (· exact Ev.shape_ne (a := dataS p.d) (b := tokS p.t) (c := joinS p) (d := comS p.c) (e := beaS p) rfl rfl); (· exact rfl))|((first|refine kR' ?_ ?_|refine kQ' ?_ ?_);all_goals(intro hc;try simp only[hcs]at hc;try(exfalso;first|contradiction|omega))))
    all_goals (
      (apply ret1; (· exact rfl); intro w' hS)
      refine ⟨congrArg (Value.int .i64) ?_, hS.toKeep⟩
      have hw : wantK p.kind = [false, false, false, false, true] := by rw [hk5]; rfl
      have hm : mayP p = (decide (p.to = 0) && liveR p.b1 p.b2 && nodeB p.b3) := by
        unfold mayP
        rw [if_neg hk1, if_neg hk2, if_neg hk3, if_neg hk4, if_pos hk5]
      first
        | (refine (chk_no (.inr ?_)).symm; rw [hw]; unfold shapeB; simp_all; done)
        | (refine (chk_no (.inl ?_)).symm; rw [hm]; simp_all; done)
        | (refine (chk_yes ?_ ?_).symm; (· rw [hm]; simp_all; done); (· rw [hw]; unfold shapeB; simp_all; done)))
  have hm : mayP p = false := by
    unfold mayP
    rw [if_neg hk1, if_neg hk2, if_neg hk3, if_neg hk4, if_neg hk5]
  repeat'(first|(apply kB;(iterate 2 exact rfl);intro b1)|refine kv' ?_|apply jJ|refine jE' ?_|refine jp' ?_|(apply jc;kernel_rfl)|refine kg' ?_|refine kG' ?_|refine kB' fun _=>?_|refine kA' fun _=>?_|refine kK' fun _=>?_|refine kU' ?_|(apply kq; (· exact rfl); (· intro w1 h1; exact CallsTo.q (p57 p A w1) h1))|((first|refine kR' ?_ ?_|refine kQ' ?_ ?_);all_goals(intro hc;try simp only[hcs]at hc;try(exfalso;first|contradiction|omega))))
  all_goals (
    (apply ret1; (· exact rfl); intro w' hS)
    exact ⟨congrArg (Value.int .i64) (chk_no (.inl hm)).symm, hS.toKeep⟩)
end Go.Proofs.YtkolmkdbjagfcaaGreat

namespace Go.Proofs.YtkolmkdbjagfcaaGreat
open Go.Hb
attribute [local irreducible] LR CW At Ev thn blk finK noG again CallsTo DW QL dnext TW DP
set_option maxRecDepth 100000

abbrev codB (bc : Nat) (pw pr : Option Addr) (e : Int) : Asrt := .own bc (.cells [.pointer pw, .pointer pr, .int .i64 e].toArray 67 (0, 0))
def wC (bc bw : Nat) (a : Option Addr) (c : Nat) (l : List Int) : Asrt := both (codB bc (some ⟨bw, 0, none⟩) none 0) (wrA 112 [.bool true] bw a c l)
def rC (bc br : Nat) (a : Option Addr) (c : Nat) (l : List Int) (e : Int) : Asrt := both (codB bc none (some ⟨br, 0, none⟩) e) (rrA 142 [.bool true] br a c l)
theorem wC_dep (bc bw : Nat) (a : Option Addr) (c : Nat) (l : List Int) : (wC bc bw a c l).dep := both_dep (Asrt.dep_own _ _) (wrA_dep _ _ _ _)
theorem rC_dep (bc br : Nat) (a : Option Addr) (c : Nat) (l : List Int) (e : Int) : (rC bc br a c l e).dep := both_dep (Asrt.dep_own _ _) (rrA_dep _ _ _ _ _ _)
structure PV where
  b : Nat
  o : Nat
  v : Int
def PV.ptr (q : PV) : List Value := [.pointer (some ⟨q.b, q.o, none⟩)]
theorem PV.ptr_len (q : PV) : q.ptr.length = 1 := rfl
def pvA (qs : List PV) : Asrt := .rd (fun k => ∃ q ∈ qs, k = q.b) (fun w => ∀ q ∈ qs, w.cell? ⟨q.b, q.o, none⟩ = some (.int .i64 q.v))
theorem pvA_dep (qs : List PV) : (pvA qs).dep := by
  intro w w' hk h q hq
  rw [World.cell?_of_block (hk q.b ⟨q, hq, rfl⟩)]
  exact h q hq
theorem pv_live {qs : List PV} {w : World} (h : (pvA qs).holds w) : ∀ q ∈ qs, q.b < w.heap.size := by
  intro q hq
  have h1 := h q hq
  unfold World.cell? at h1
  cases hx : w.heap[q.b]? with
  | none => simp [hx] at h1
  | some o => exact (Array.getElem?_eq_some_iff.1 hx).1
set_option maxHeartbeats 4000000 in
theorem p87w (bc bw : Nat) (a : Option Addr) (c : Nat) (l : List Int) (bl : Nat) (qs : List PV) (w : World) (h : (wC bc bw a c l).holds w) (hp : Rd w (some ⟨bl, 0, none⟩) (qs.flatMap PV.ptr)) (hv : (pvA qs).holds w)
    (hd : ∀ q ∈ qs, ¬ (wC bc bw a c l).foot q.b) (hb : ¬ (wC bc bw a c l).foot bl) (hok : ∀ q ∈ qs, okN q.v) (hm : l.length ≤ 1000000) (hn : qs.length ≤ 100) :
    CallsTo Tryz.prog 74 [.pointer (some ⟨bc, 0, none⟩), .slice (some ⟨bl, 0, none⟩) qs.length qs.length] w fun v w' => ∃ a' c', v = .tuple #[] ∧ Step (wC bc bw a c l) (wC bc bw a' c' (l ++ encs (qs.map PV.v))) w w' := by
  have hS0 : St w (wC bc bw a c l).foot [wC bc bw a c l, pvA qs, rdA (some ⟨bl, 0, none⟩) (qs.flatMap PV.ptr)] w := by
    have h1 := St.one h (both_live h) (wC_dep _ _ _ _ _)
    have h2 := h1.addRd hp (fun k hk => by obtain ⟨_, _, e, rfl⟩ := hk; cases e; exact hb)
    have h3 := h2.old hv (fun k hk => by obtain ⟨q, hq, rfl⟩ := hk; exact ⟨pv_live hv q hq, hd q hq⟩) (pvA_dep qs)
    have h4 : St w (wC bc bw a c l).foot [pvA qs, rdA (some ⟨bl, 0, none⟩) (qs.flatMap PV.ptr), wC bc bw a c l] w := h3
    exact front h4 2 rfl rfl
  generalize hF : (wC bc bw a c l).foot = F at hS0
  refine go_in (n := 49) (hS0.part (Asrt.dep_own _ _) (wrA_dep _ _ _ _)) Tryz.func74 rfl rfl ?_
  repeat'(first|refine kv' ?_|apply jJ|refine jE' ?_|refine jp' ?_|(apply jc;kernel_rfl)|refine kg' ?_|refine kG' ?_|refine kB' fun _=>?_|refine kA' fun _=>?_|refine kK' fun _=>?_|refine kU' ?_|((first|refine kR' ?_ ?_|refine kQ' ?_ ?_);all_goals(intro hc;try simp only[hcs]at hc;try(exfalso;first|contradiction|omega))))
  apply CW.loop [5, 8, 9, 10, 11, 12, 13, 14, 15, 16, 17, 18, 19, 20, 21, 22, 23, 24, 25, 26, 27, 28, 29, 30, 31, 32, 33, 34, 35, 36, 37, 38, 39, 40, 41, 42, 43, 44, 45, 46, 47, 48] (fun s : Nat × Option Addr × Nat => s.1 ≤ qs.length) (fun s => [(8, Value.int .i64 (s.1 : Int))])
    (fun s => St w F [codB bc (some ⟨bw, 0, none⟩) none 0, wrA 112 [.bool true] bw s.2.1 s.2.2 (l ++ encs ((qs.take s.1).map PV.v)), pvA qs, rdA (some ⟨bl, 0, none⟩) (qs.flatMap PV.ptr)]) (fun s => qs.length - s.1)
  · exact fun w' hw' => ⟨(0, a, c), by simp, ⟨rfl, trivial⟩, hw'.cast (by simp [encs])⟩
  rintro ⟨i, a1, c1⟩ g hi
  simp only at hi ⊢
  have hlen := encs_len ((qs.take i).map PV.v)
  have hlen2 : ((qs.take i).map PV.v).length ≤ 100 := by rw [List.length_map, List.length_take]; omega
  by_cases hlt : i < qs.length
  · have hx := hok _ (List.getElem_mem hlt)
    have e1 := putE_ok hx
    have e2 := putL_ok hx
    have hcell : ∀ w', St w F [codB bc (some ⟨bw, 0, none⟩) none 0, pvA qs, rdA (some ⟨bl, 0, none⟩) (qs.flatMap PV.ptr)] w' → w'.cell? ⟨qs[i].b, qs[i].o, none⟩ = some (.int .i64 qs[i].v) := fun w' hw' => (hw'.holds (pvA qs) memZ) _ (List.getElem_mem hlt)
    repeat'(first|(apply CW.reg_sink 11 (St w F [codB bc (some ⟨bw, 0, none⟩) none 0, pvA qs, rdA (some ⟨bl, 0, none⟩) (qs.flatMap PV.ptr)]); (· exact rfl); (· decide +kernel))|refine kv' ?_|apply jJ|refine jE' ?_|refine jp' ?_|(apply jc;kernel_rfl)|refine kg' ?_|refine kG' ?_|refine kB' fun _=>?_|refine kA' fun _=>?_|refine kK' fun _=>?_|refine kU' ?_|(apply idxX;(iterate 2 exact rfl);(iterate 2(first|omega|(dsimp only;omega)));exact rfl)|(apply LR.ev; (· apply Ev.load (v := .pointer (some ⟨qs[i].b, qs[i].o, none⟩)); (· exact rfl); (· exact fun w' hw' => row_cell PV.ptr_len (hw'.rd_of memZ) hlt 0 rfl (by omega))); (· exact rfl))|((first|refine kR' ?_ ?_|refine kQ' ?_ ?_);all_goals(intro hc;try simp only[hcs]at hc;try(exfalso;first|contradiction|omega))))
    all_goals (
      apply DW.quiet [0, 1, 2, 3, 4, 5, 6, 7]
      · decide +kernel
      · first | exact fun _ h => h | exact fun _ h => St.sub h subZ
      repeat'(first|refine yv' ?_|(apply QL.ev; (· exact rfl); (· apply Ev.load (v := .int .i64 qs[i].v); (· exact rfl); (· exact hcell)); (· exact rfl))|refine uv' ?_|refine un' ?_|(refine us' ?_ ?_;all_goals(intro hc;try simp only[hcs]at hc;try(exfalso;first|contradiction|omega)))|apply QL.nil)
      all_goals (show DW _ _ _ _ _ _ _ _))
    all_goals (
      apply DW.loud 8
      · exact rfl
      · decide +kernel
      repeat'(first|refine kg' ?_|refine kG' ?_|apply kM|refine kv' ?_|refine kK' fun _=>?_|refine kU' ?_|refine kB' fun _=>?_|refine kA' fun _=>?_|(apply LR.call; (· exact rfl); (intro w1 h1; refine CallsTo.mono (show CallsTo Tryz.prog 105 [.pointer (some ⟨bw, 0, none⟩), .int .i64 qs[i].v] w1 _ from c87 bw a1 c1 _ qs[i].v w1 (h1.holds (wrA 112 [.bool true] bw a1 c1 (l ++ encs ((qs.take i).map PV.v))) memZ) (by simp only [List.length_append]; omega)) ?_; rintro v w2 ⟨a2, c2, rfl, st⟩; refine LR.back (St.did h1 selZ rfl st (wrA_dep _ _ _ _)) ?_; clear st h1; rw [e1, e2])))
      all_goals (refine At.stage_same (fun _ h => St.sub h subZ) ?_))
    all_goals (
      apply DW.quiet [9, 10]
      · decide +kernel
      · first | exact fun _ h => h | exact fun _ h => St.sub h subZ
      repeat'(first|refine yv' ?_|(apply QL.ev; (· exact rfl); (· apply Ev.load (v := .int .i64 qs[i].v); (· exact rfl); (· exact hcell)); (· exact rfl))|refine uv' ?_|refine un' ?_|(refine us' ?_ ?_;all_goals(intro hc;try simp only[hcs]at hc;try(exfalso;first|contradiction|omega)))|apply QL.nil)
      all_goals (show DW _ _ _ _ _ _ _ _))
    all_goals (apply DW.done; (· decide +kernel))
    all_goals apply At.sink
    repeat'(first|refine kv' ?_|apply jJ|refine jE' ?_|refine jp' ?_|(apply jc;kernel_rfl)|refine kg' ?_|refine kG' ?_|refine kB' fun _=>?_|refine kA' fun _=>?_|refine kK' fun _=>?_|refine kU' ?_|(apply addX;(iterate 2 exact rfl);(iterate 2(first|omega|(dsimp only;omega)));exact rfl)|((first|refine kR' ?_ ?_|refine kQ' ?_ ?_);all_goals(intro hc;try simp only[hcs]at hc;try(exfalso;first|contradiction|omega))))
    refine At.again (i + 1, a2, c2) (by show i + 1 ≤ _; omega) ?_ ⟨rfl, trivial⟩ (fun w' hw' => ?_) (by show qs.length - (i + 1) < qs.length - i; omega)
    · (repeat (first | exact Out.refl _ _ | exact Out.mix | (apply Out.upd; (· exact rfl)) | (apply Out.updL; (· exact rfl)) | (apply Out.mixs; (· exact rfl))))
    · have e3 : (qs.take (i + 1)).map PV.v = (qs.take i).map PV.v ++ [qs[i].v] := by
        rw [List.take_add_one, List.getElem?_eq_getElem hlt, List.map_append]
        rfl
      have e4 : l ++ encs ((qs.take (i + 1)).map PV.v) = l ++ encs ((qs.take i).map PV.v) ++ enc qs[i].v.toNat := by
        rw [e3]
        unfold encs
        rw [List.flatMap_append, List.append_assoc]
        simp
      simp only
      rw [e4]
      exact hw'
  · have hie : i = qs.length := by omega
    subst hie
    rw [List.take_length]
    repeat'(first|refine kv' ?_|apply jJ|refine jE' ?_|refine jp' ?_|(apply jc;kernel_rfl)|refine kg' ?_|refine kG' ?_|refine kB' fun _=>?_|refine kA' fun _=>?_|refine kK' fun _=>?_|refine kU' ?_|((first|refine kR' ?_ ?_|refine kQ' ?_ ?_);all_goals(intro hc;try simp only[hcs]at hc;try(exfalso;first|contradiction|omega))))
    apply end0
    · exact rfl
    intro w' hS
    subst hF
    exact ⟨a1, c1, rfl, ((hS.sub (L' := [codB bc (some ⟨bw, 0, none⟩) none 0, wrA 112 [.bool true] bw a1 c1 (l ++ encs (qs.map PV.v))]) subZ).join rfl rfl).step rfl⟩
abbrev RS := List Int × Int
def getS (s : RS) : Int × RS := if s.2 ≠ 0 then (0, s) else (((dec s.1).1 : Int), (s.1.drop (dec s.1).2.1, (dec s.1).2.2))
def rdN : List Nat → List Value → RS → List Value × RS
  | [], cs, s => (cs, s)
  | o :: r, cs, s => if s.2 ≠ 0 then (cs, s) else rdN r (cs.set o (.int .i64 (getS s).1)) (getS s).2
def rX (bc br : Nat) (a : Option Addr) (c : Nat) (s : RS) (b : Nat) (cs : List Value) (E : Nat) : Asrt := both (rC bc br a c s.1 s.2) (.own b (.cells cs.toArray E (0, 0)))
theorem rX_dep (bc br : Nat) (a : Option Addr) (c : Nat) (s : RS) (b : Nat) (cs : List Value) (E : Nat) : (rX bc br a c s b cs E).dep := both_dep (rC_dep _ _ _ _ _ _) (Asrt.dep_own _ _)
def offP (b : Nat) (o : Nat) : List Value := [.pointer (some ⟨b, o, none⟩)]
theorem offP_len (b o : Nat) : (offP b o).length = 1 := rfl
theorem getS_ok {s : RS} (h : s.2 = 0) : getS s = (((dec s.1).1 : Int), (s.1.drop (dec s.1).2.1, (dec s.1).2.2)) := by unfold getS; rw [if_neg (by simp [h])]
theorem byt_drop {l : List Int} (h : Byt l) (n : Nat) : Byt (l.drop n) := fun x hx => h x (List.mem_of_mem_drop hx)
structure Rst where
  i : Nat
  a : Option Addr
  c : Nat
  s : RS
  cs : List Value
set_option maxHeartbeats 4000000 in
theorem p87r (bc br : Nat) (a : Option Addr) (c : Nat) (s : RS) (b : Nat) (cs : List Value) (E : Nat) (bl : Nat) (os : List Nat) (w : World) (h : (rX bc br a c s b cs E).holds w) (hp : Rd w (some ⟨bl, 0, none⟩) (os.flatMap (offP b)))
    (hb : ¬ (rX bc br a c s b cs E).foot bl) (hos : ∀ o ∈ os, o < cs.length) (hB : Byt s.1) (hm : s.1.length ≤ 281474976710656) (hn : os.length ≤ 1000) :
    CallsTo Tryz.prog 74 [.pointer (some ⟨bc, 0, none⟩), .slice (some ⟨bl, 0, none⟩) os.length os.length] w fun v w' => ∃ a' c', v = .tuple #[] ∧ Step (rX bc br a c s b cs E) (rX bc br a' c' (rdN os cs s).2 b (rdN os cs s).1 E) w w' := by
  have hS0 : St w (rX bc br a c s b cs E).foot [rX bc br a c s b cs E, rdA (some ⟨bl, 0, none⟩) (os.flatMap (offP b))] w := by
    have h1 := St.one h (both_live h) (rX_dep _ _ _ _ _ _ _ _)
    exact front (h1.addRd hp (fun k hk => by obtain ⟨_, _, e, rfl⟩ := hk; cases e; exact hb)) 1 rfl rfl
  generalize hF : (rX bc br a c s b cs E).foot = F at hS0
  refine go_in (n := 49) ((hS0.part (rC_dep _ _ _ _ _ _) (Asrt.dep_own _ _)).part (Asrt.dep_own _ _) (rrA_dep _ _ _ _ _ _)) Tryz.func74 rfl rfl ?_
  have fin_ : ∀ {w' : World} {a' : Option Addr} {c' : Nat} {s' : RS} {cs' : List Value} {R : List Asrt}, St w F (codB bc none (some ⟨br, 0, none⟩) s'.2 :: rrA 142 [.bool true] br a' c' s'.1 :: .own b (.cells cs'.toArray E (0, 0)) :: R) w' → Step (rX bc br a c s b cs E) (rX bc br a' c' s' b cs' E) w w' := fun hS => by
    subst hF
    exact St.step (R := _) (St.join (x := rC bc br _ _ _ _) (St.join hS rfl rfl) rfl rfl) rfl
  repeat'(first|refine kv' ?_|apply jJ|refine jE' ?_|refine jp' ?_|(apply jc;kernel_rfl)|refine kg' ?_|refine kG' ?_|refine kB' fun _=>?_|refine kA' fun _=>?_|refine kK' fun _=>?_|refine kU' ?_|((first|refine kR' ?_ ?_|refine kQ' ?_ ?_);all_goals(intro hc;try simp only[hcs]at hc;try(exfalso;first|contradiction|omega))))
  apply CW.loop [5, 8, 9, 10, 11, 12, 13, 14, 15, 16, 17, 18, 19, 20, 21, 22, 23, 24, 25, 26, 27, 28, 29, 30, 31, 32, 33, 34, 35, 36, 37, 38, 39, 40, 41, 42, 43, 44, 45, 46, 47, 48] (fun t : Rst => t.i ≤ os.length ∧ rdN os cs s = rdN (os.drop t.i) t.cs t.s ∧ t.cs.length = cs.length ∧ Byt t.s.1 ∧ t.s.1.length ≤ 281474976710656) (fun t => [(8, Value.int .i64 (t.i : Int))])
    (fun t => St w F [codB bc none (some ⟨br, 0, none⟩) t.s.2, rrA 142 [.bool true] br t.a t.c t.s.1, .own b (.cells t.cs.toArray E (0, 0)), rdA (some ⟨bl, 0, none⟩) (os.flatMap (offP b))]) (fun t => os.length - t.i)
  · exact fun w' hw' => ⟨⟨0, a, c, s, cs⟩, ⟨by simp, rfl, rfl, hB, hm⟩, ⟨rfl, trivial⟩, hw'⟩
  rintro ⟨i, a1, c1, s1, cs1⟩ g ⟨hi, heq, hcl, hB1, hm1⟩
  simp only at hi heq hcl hB1 hm1 ⊢
  by_cases hlt : i < os.length
  · have hio := hos _ (List.getElem_mem hlt)
    rw [List.drop_eq_getElem_cons hlt, rdN] at heq
    by_cases he : s1.2 = 0
    · rw [if_neg (by simp [he])] at heq
      have hg := getS_ok he
      obtain ⟨o, ho⟩ : ∃ o, os[i] = o := ⟨_, rfl⟩
      have hptr : ∀ w', Rd w' (some ⟨bl, 0, none⟩) (os.flatMap (offP b)) → w'.cell? ⟨bl, 0 + (i : Int).toNat * 1, none⟩ = some (.pointer (some ⟨b, o, none⟩)) := fun w' hw' => by
        refine row_cell (offP_len b) hw' hlt 0 ?_ (by omega)
        rw [ho]; rfl
      rw [ho] at hio heq
      repeat'(first|refine kv' ?_|apply jJ|refine jE' ?_|refine jp' ?_|(apply jc;kernel_rfl)|refine kg' ?_|refine kG' ?_|refine kB' fun _=>?_|refine kA' fun _=>?_|refine kK' fun _=>?_|refine kU' ?_|(apply idxX;(iterate 2 exact rfl);(iterate 2(first|omega|(dsimp only;omega)));exact rfl)|(apply LR.ev; (· apply Ev.load (v := .pointer (some ⟨b, o, none⟩)); (· exact rfl); (· exact fun w' hw' => hptr w' (hw'.rd_of memZ))); (· exact rfl))|(apply LR.call; (· exact rfl); (intro w1 h1; refine CallsTo.mono (show CallsTo Tryz.prog 106 [.pointer (some ⟨br, 0, none⟩)] w1 _ from c73 br a1 c1 s1.1 w1 (h1.holds (rrA 142 [.bool true] br a1 c1 s1.1) memZ) hB1 hm1) ?_; rintro v w2 ⟨a2, c2, rfl, st⟩; refine LR.back (St.did h1 selZ rfl st (rrA_dep _ _ _ _ _ _)) ?_; clear st h1))|((first|refine kR' ?_ ?_|refine kQ' ?_ ?_);all_goals(intro hc;try simp only[hcs]at hc;try(exfalso;first|contradiction|omega))))
      apply kS
      · exact rfl
      · exact rfl
      · (repeat (first | exact sH _ _ _ | apply sT))
      · have h1 : Nat.ble (o + 1) cs1.length = true := by simp; omega
        show (([Value.int .i64 ((dec s1.1).1 : Int)].all Value.oneCell' && Nat.beq 1 1 && Nat.ble (o + 1) cs1.length) = true)
        rw [h1]; rfl
      repeat'(first|refine kv' ?_|apply jJ|refine jE' ?_|refine jp' ?_|(apply jc;kernel_rfl)|refine kg' ?_|refine kG' ?_|refine kB' fun _=>?_|refine kA' fun _=>?_|refine kK' fun _=>?_|refine kU' ?_|(apply addX;(iterate 2 exact rfl);(iterate 2(first|omega|(dsimp only;omega)));exact rfl)|((first|refine kR' ?_ ?_|refine kQ' ?_ ?_);all_goals(intro hc;try simp only[hcs]at hc;try(exfalso;first|contradiction|omega))))
      rw [hg] at heq
      refine At.again (⟨i + 1, a2, c2, (s1.1.drop (dec s1.1).2.1, (dec s1.1).2.2), cs1.set o (.int .i64 ((dec s1.1).1 : Int))⟩ : Rst) ⟨by simp only; omega, heq, by simp only [List.length_set]; exact hcl, byt_drop hB1 _, by simp only [List.length_drop]; omega⟩ ?_ ⟨rfl, trivial⟩ (fun w' hw' => ?_) (by simp only; omega)
      · (repeat (first | exact Out.refl _ _ | exact Out.mix | (apply Out.upd; (· exact rfl)) | (apply Out.updL; (· exact rfl)) | (apply Out.mixs; (· exact rfl))))
      · have e : splice cs1 o [Value.int .i64 ((dec s1.1).1 : Int)] = cs1.set o (.int .i64 ((dec s1.1).1 : Int)) := by
          rw [List.set_eq_take_append_cons_drop, if_pos (by omega)]
          unfold splice
          simp
        rw [e] at hw'
        exact hw'
    · rw [if_pos he] at heq
      have hptr : ∀ w', Rd w' (some ⟨bl, 0, none⟩) (os.flatMap (offP b)) → w'.cell? ⟨bl, 0 + (i : Int).toNat * 1, none⟩ = some (.pointer (some ⟨b, os[i], none⟩)) := fun w' hw' => row_cell (offP_len b) hw' hlt 0 rfl (by omega)
      repeat'(first|refine kv' ?_|apply jJ|refine jE' ?_|refine jp' ?_|(apply jc;kernel_rfl)|refine kg' ?_|refine kG' ?_|refine kB' fun _=>?_|refine kA' fun _=>?_|refine kK' fun _=>?_|refine kU' ?_|(apply idxX;(iterate 2 exact rfl);(iterate 2(first|omega|(dsimp only;omega)));exact rfl)|(apply LR.ev; (· apply Ev.load (v := .pointer (some ⟨b, os[i], none⟩)); (· exact rfl); (· exact fun w' hw' => hptr w' (hw'.rd_of memZ))); (· exact rfl))|((first|refine kR' ?_ ?_|refine kQ' ?_ ?_);all_goals(intro hc;try simp only[hcs]at hc;try(exfalso;first|contradiction|omega))))
      apply ret0
      · exact rfl
      intro w' hS
      rw [heq]
      exact ⟨a1, c1, rfl, fin_ hS⟩
  · have hie : i = os.length := by omega
    subst hie
    rw [List.drop_length] at heq
    repeat'(first|refine kv' ?_|apply jJ|refine jE' ?_|refine jp' ?_|(apply jc;kernel_rfl)|refine kg' ?_|refine kG' ?_|refine kB' fun _=>?_|refine kA' fun _=>?_|refine kK' fun _=>?_|refine kU' ?_|((first|refine kR' ?_ ?_|refine kQ' ?_ ?_);all_goals(intro hc;try simp only[hcs]at hc;try(exfalso;first|contradiction|omega))))
    apply end0
    · exact rfl
    intro w' hS
    rw [heq]
    exact ⟨a1, c1, rfl, fin_ hS⟩
end Go.Proofs.YtkolmkdbjagfcaaGreat

namespace Go.Proofs.YtkolmkdbjagfcaaGreat
open Go.Hb
attribute [local irreducible] LR CW At Ev thn blk finK noG again CallsTo DW QL dnext TW DP
set_option maxRecDepth 100000

theorem St.apart2 {w0 w : World} {F : Nat → Prop} {L : List Asrt} {x y : Asrt} (h : St w0 F L w) (hs : [x, y].Sublist L ∨ [y, x].Sublist L) (he : (x.excl || y.excl) = true) : ∀ k, x.foot k → ¬ y.foot k := by
  rcases hs with hs | hs
  · exact (List.pairwise_cons.1 (h.dis.sublist hs)).1 y (by simp) he
  · intro k hx hy
    exact (List.pairwise_cons.1 (h.dis.sublist hs)).1 x (by simp) (by rw [Bool.or_comm]; exact he) k hy hx
theorem pv_sub {qs qs' : List PV} {w : World} (hs : ∀ q ∈ qs', q ∈ qs) (h : (pvA qs).holds w) : (pvA qs').holds w := fun q hq => h q (hs q hq)
theorem wC_start {bc bw : Nat} {a : Option Addr} {c : Nat} {l : List Int} {qs : List PV} {w : World} (h : (wC bc bw a c l).holds w) (hv : (pvA qs).holds w) (hd : ∀ q ∈ qs, ¬ (wC bc bw a c l).foot q.b) : St w (wC bc bw a c l).foot [wC bc bw a c l, pvA qs] w := by
  have h1 := St.one h (both_live h) (wC_dep _ _ _ _ _)
  have h3 : St w (wC bc bw a c l).foot [pvA qs, wC bc bw a c l] w := h1.old hv (fun k hk => by obtain ⟨q, hq, rfl⟩ := hk; exact ⟨pv_live hv q hq, hd q hq⟩) (pvA_dep qs)
  exact front h3 1 rfl rfl
theorem pv_hd {w0 w : World} {F : Nat → Prop} {L : List Asrt} {bc bw : Nat} {a : Option Addr} {c : Nat} {l : List Int} {qs qs' : List PV} (h : St w0 F L w) (hs : [wC bc bw a c l, pvA qs].Sublist L ∨ [pvA qs, wC bc bw a c l].Sublist L) (hq : ∀ q ∈ qs', q ∈ qs) : ∀ q ∈ qs', ¬ (wC bc bw a c l).foot q.b :=
  fun q hm hf => St.apart2 h hs rfl q.b hf ⟨q, hq q hm, rfl⟩
set_option maxHeartbeats 2000000 in
theorem p89w (bc bw : Nat) (a : Option Addr) (c : Nat) (l : List Int) (b o : Nat) (s r : Int) (w : World) (h : (wC bc bw a c l).holds w) (hv : (pvA [⟨b, o, s⟩, ⟨b, o + 1, r⟩]).holds w) (hd : ∀ q ∈ [(⟨b, o, s⟩ : PV), ⟨b, o + 1, r⟩], ¬ (wC bc bw a c l).foot q.b) (hs : okN s) (hr : okN r) (hm : l.length ≤ 1000000) :
    CallsTo Tryz.prog 76 [.pointer (some ⟨bc, 0, none⟩), .pointer (some ⟨b, o, none⟩)] w fun v w' => ∃ a' c', v = .tuple #[] ∧ Step (wC bc bw a c l) (wC bc bw a' c' (l ++ encs [s, r])) w w' := by
  have hS0 := wC_start h hv hd
  generalize hF : (wC bc bw a c l).foot = F at hS0
  refine go_in (n := 13) hS0 Tryz.func76 rfl rfl ?_
  repeat'(first|(apply CW.reg_held (St w F [pvA [⟨b, o, s⟩, ⟨b, o + 1, r⟩]]))|refine kv' ?_|apply jJ|refine jE' ?_|refine jp' ?_|(apply jc;kernel_rfl)|refine kg' ?_|refine kG' ?_|refine kB' fun _=>?_|refine kA' fun _=>?_|refine kK' fun _=>?_|refine kU' ?_|((first|refine kR' ?_ ?_|refine kQ' ?_ ?_);all_goals(intro hc;try simp only[hcs]at hc;try(exfalso;first|contradiction|omega))))
  all_goals (
    apply DW.quiet [0, 1, 2, 3, 4, 5, 6]
    · decide +kernel
    · first | exact fun _ h => h | exact fun _ h => St.sub h subZ
    repeat'(first|refine yv' ?_|refine uv' ?_|refine un' ?_|(refine us' ?_ ?_;all_goals(intro hc;try simp only[hcs]at hc;try(exfalso;first|contradiction|omega)))|apply QL.nil)
    all_goals (show DW _ _ _ _ _ _ _ _))
  all_goals (
    apply DW.loud 7
    · exact rfl
    · decide +kernel
    repeat'(first|(apply Go.Hb.kK;(iterate 4 exact rfl);intro bs)|refine kg' ?_|refine kG' ?_|apply kM|refine kv' ?_|refine kK' fun _=>?_|refine kU' ?_|refine kB' fun _=>?_|refine kA' fun _=>?_|(apply LR.call; (· exact rfl); (intro w1 h1; refine (p87w bc bw a c l bs [⟨b, o, s⟩, ⟨b, o + 1, r⟩] w1 (h1.holds _ memZ) (h1.rd_of_blk memZ) (h1.holds (pvA [⟨b, o, s⟩, ⟨b, o + 1, r⟩]) memZ) (by rw [hF] at hd ⊢; exact hd) (St.apart2 (x := .own bs (.cells _ 114 (0, 0))) h1 (.inl subZ) rfl bs rfl) (fun q hq => by simp only [List.mem_cons, List.not_mem_nil, or_false] at hq; rcases hq with rfl | rfl; (· exact hs); (· exact hr)) hm (by simp)).mono ?_; rintro v w2 ⟨a2, c2, rfl, st⟩; refine LR.back (St.did h1 selZ rfl st (wC_dep _ _ _ _ _)) ?_; clear st h1)))
    all_goals (refine At.stage_same (fun _ h => St.sub h subZ) ?_))
  all_goals (
    apply DW.loud 8
    · exact rfl
    · decide +kernel
    repeat'(first|(apply Go.Hb.kK;(iterate 4 exact rfl);intro bs)|refine kg' ?_|refine kG' ?_|apply kM|refine kv' ?_|refine kK' fun _=>?_|refine kU' ?_|refine kB' fun _=>?_|refine kA' fun _=>?_|(apply LR.call; (· exact rfl); (intro w1 h1; refine (p87w bc bw a c l bs [⟨b, o, s⟩, ⟨b, o + 1, r⟩] w1 (h1.holds _ memZ) (h1.rd_of_blk memZ) (h1.holds (pvA [⟨b, o, s⟩, ⟨b, o + 1, r⟩]) memZ) (by rw [hF] at hd ⊢; exact hd) (St.apart2 (x := .own bs (.cells _ 114 (0, 0))) h1 (.inl subZ) rfl bs rfl) (fun q hq => by simp only [List.mem_cons, List.not_mem_nil, or_false] at hq; rcases hq with rfl | rfl; (· exact hs); (· exact hr)) hm (by simp)).mono ?_; rintro v w2 ⟨a2, c2, rfl, st⟩; refine LR.back (St.did h1 selZ rfl st (wC_dep _ _ _ _ _)) ?_; clear st h1)))
    all_goals (refine At.stage_same (fun _ h => St.sub h subZ) ?_))
  all_goals (first | (apply DW.done_thn; (· decide +kernel)) | (apply DW.done; (· decide +kernel)))
  repeat'(first|refine kv' ?_|apply jJ|refine jE' ?_|refine jp' ?_|(apply jc;kernel_rfl)|refine kg' ?_|refine kG' ?_|refine kB' fun _=>?_|refine kA' fun _=>?_|refine kK' fun _=>?_|refine kU' ?_|((first|refine kR' ?_ ?_|refine kQ' ?_ ?_);all_goals(intro hc;try simp only[hcs]at hc;try(exfalso;first|contradiction|omega))))
  apply end0
  · exact rfl
  intro w' hS
  subst hF
  exact ⟨a2, c2, rfl, (hS.sub (L' := [wC bc bw a2 c2 (l ++ encs [s, r])]) subZ).step rfl⟩
set_option maxHeartbeats 2000000 in
theorem p92w (bc bw : Nat) (a : Option Addr) (c : Nat) (l : List Int) (b o : Nat) (s : Int) (w : World) (h : (wC bc bw a c l).holds w) (hv : (pvA [⟨b, o, s⟩]).holds w) (hd : ∀ q ∈ [(⟨b, o, s⟩ : PV)], ¬ (wC bc bw a c l).foot q.b) (hs : okN s) (hm : l.length ≤ 1000000) :
    CallsTo Tryz.prog 79 [.pointer (some ⟨bc, 0, none⟩), .pointer (some ⟨b, o, none⟩)] w fun v w' => ∃ a' c', v = .tuple #[] ∧ Step (wC bc bw a c l) (wC bc bw a' c' (l ++ encs [s])) w w' := by
  have hS0 := wC_start h hv hd
  generalize hF : (wC bc bw a c l).foot = F at hS0
  refine go_in (n := 8) hS0 Tryz.func79 rfl rfl ?_
  repeat'(first|(apply Go.Hb.kK;(iterate 4 exact rfl);intro bs)|refine kv' ?_|apply jJ|refine jE' ?_|refine jp' ?_|(apply jc;kernel_rfl)|refine kg' ?_|refine kG' ?_|refine kB' fun _=>?_|refine kA' fun _=>?_|refine kK' fun _=>?_|refine kU' ?_|(apply LR.call; (· exact rfl); (intro w1 h1; refine (p87w bc bw a c l bs [⟨b, o, s⟩] w1 (h1.holds _ memZ) (h1.rd_of_blk memZ) (h1.holds (pvA [⟨b, o, s⟩]) memZ) (by rw [hF] at hd ⊢; exact hd) (St.apart2 (x := .own bs (.cells _ 114 (0, 0))) h1 (.inl subZ) rfl bs rfl) (fun q hq => by simp only [List.mem_cons, List.not_mem_nil, or_false] at hq; rcases hq with rfl; exact hs) hm (by simp)).mono ?_; rintro v w2 ⟨a2, c2, rfl, st⟩; refine LR.back (St.did h1 selZ rfl st (wC_dep _ _ _ _ _)) ?_; clear st h1))|((first|refine kR' ?_ ?_|refine kQ' ?_ ?_);all_goals(intro hc;try simp only[hcs]at hc;try(exfalso;first|contradiction|omega))))
  apply end0
  · exact rfl
  intro w' hS
  subst hF
  exact ⟨a2, c2, rfl, (hS.sub (L' := [wC bc bw a2 c2 (l ++ encs [s])]) subZ).step rfl⟩
def entQ (b o : Nat) (e : Ent) : List PV := [⟨b, o, e.node⟩, ⟨b, o + 1, e.o1⟩, ⟨b, o + 2, e.o2⟩, ⟨b, o + 3, e.aru⟩, ⟨b, o + 4, e.high⟩, ⟨b, o + 5, e.clock⟩]
theorem encs_app (x y : List Int) : encs (x ++ y) = encs x ++ encs y := by unfold encs; rw [List.flatMap_append]
set_option maxHeartbeats 4000000 in
theorem p94w (bc bw : Nat) (a : Option Addr) (c : Nat) (l : List Int) (b o : Nat) (e : Ent) (w : World) (h : (wC bc bw a c l).holds w) (hv : (pvA (entQ b o e)).holds w) (hd : ∀ q ∈ entQ b o e, ¬ (wC bc bw a c l).foot q.b) (hok : ∀ x ∈ e.nums, okN x) (hm : l.length ≤ 900000) :
    CallsTo Tryz.prog 81 [.pointer (some ⟨bc, 0, none⟩), .pointer (some ⟨b, o, none⟩)] w fun v w' => ∃ a' c', v = .tuple #[] ∧ Step (wC bc bw a c l) (wC bc bw a' c' (l ++ encs e.nums)) w w' := by
  have hS0 := wC_start h hv hd
  generalize hF : (wC bc bw a c l).foot = F at hS0
  have hl1 := encs_len [e.node]
  have hl2 := encs_len [e.o1, e.o2]
  simp only [List.length_cons, List.length_nil] at hl1 hl2
  have ok : ∀ x, x ∈ e.nums → okN x := hok
  have q1 : ∀ q ∈ [(⟨b, o, e.node⟩ : PV)], q ∈ entQ b o e := fun q hq => by simp only [List.mem_cons, List.not_mem_nil, or_false] at hq; subst hq; simp [entQ]
  have q2 : ∀ q ∈ [(⟨b, o + 1, e.o1⟩ : PV), ⟨b, o + 1 + 1, e.o2⟩], q ∈ entQ b o e := fun q hq => by simp only [List.mem_cons, List.not_mem_nil, or_false] at hq; rcases hq with rfl | rfl <;> simp [entQ]
  have q3 : ∀ q ∈ [(⟨b, o + 3, e.aru⟩ : PV), ⟨b, o + 4, e.high⟩, ⟨b, o + 5, e.clock⟩], q ∈ entQ b o e := fun q hq => by simp only [List.mem_cons, List.not_mem_nil, or_false] at hq; rcases hq with rfl | rfl | rfl <;> simp [entQ]
  refine go_in (n := 27) hS0 Tryz.func81 rfl rfl ?_
  repeat'(first|(apply CW.reg_held (St w F [pvA (entQ b o e)]))|(apply Go.Hb.kK;(iterate 4 exact rfl);intro bs)|refine kv' ?_|apply jJ|refine jE' ?_|refine jp' ?_|(apply jc;kernel_rfl)|refine kg' ?_|refine kG' ?_|refine kB' fun _=>?_|refine kA' fun _=>?_|refine kK' fun _=>?_|refine kU' ?_|(apply LR.call; (· exact rfl); (intro w1 h1; first | (refine (p87w bc bw a c l bs [⟨b, o, e.node⟩] w1 (h1.holds _ memZ) (h1.rd_of_blk memZ) (pv_sub q1 (h1.holds (pvA (entQ b o e)) memZ)) (pv_hd h1 (.inl subZ) q1) (St.apart2 (x := .own bs (.cells _ 114 (0, 0))) h1 (.inl subZ) rfl bs rfl) (fun q hq => by simp only [List.mem_cons, List.not_mem_nil, or_false] at hq; subst hq; exact ok _ (by simp [Ent.nums])) (by omega) (by simp)).mono ?_; rintro v w2 ⟨a2, c2, rfl, st⟩; refine LR.back (St.did h1 selZ rfl st (wC_dep _ _ _ _ _)) ?_; clear st h1) | (refine (p89w bc bw a2 c2 (l ++ encs [e.node]) b (o + 1) e.o1 e.o2 w1 (h1.holds _ memZ) (pv_sub q2 (h1.holds (pvA (entQ b o e)) memZ)) (pv_hd h1 (.inl subZ) q2) (ok _ (by simp [Ent.nums])) (ok _ (by simp [Ent.nums])) (by simp only [List.length_append]; omega)).mono ?_; rintro v w2 ⟨a3, c3, rfl, st⟩; refine LR.back (St.did h1 selZ rfl st (wC_dep _ _ _ _ _)) ?_; clear st h1)))|((first|refine kR' ?_ ?_|refine kQ' ?_ ?_);all_goals(intro hc;try simp only[hcs]at hc;try(exfalso;first|contradiction|omega))))
  all_goals (
    apply DW.quiet [0, 1, 2, 3, 4, 5, 6, 7, 8, 9]
    · decide +kernel
    · first | exact fun _ h => h | exact fun _ h => St.sub h subZ
    repeat'(first|refine yv' ?_|refine uv' ?_|refine un' ?_|(refine us' ?_ ?_;all_goals(intro hc;try simp only[hcs]at hc;try(exfalso;first|contradiction|omega)))|apply QL.nil)
    all_goals (show DW _ _ _ _ _ _ _ _))
  all_goals (
    apply DW.loud 10
    · exact rfl
    · decide +kernel
    repeat'(first|(apply Go.Hb.kK;(iterate 4 exact rfl);intro bs2)|refine kg' ?_|refine kG' ?_|apply kM|refine kv' ?_|refine kK' fun _=>?_|refine kU' ?_|refine kB' fun _=>?_|refine kA' fun _=>?_|(apply LR.call; (· exact rfl); (intro w1 h1; refine (p87w bc bw a3 c3 (l ++ encs [e.node] ++ encs [e.o1, e.o2]) bs2 [⟨b, o + 3, e.aru⟩, ⟨b, o + 4, e.high⟩, ⟨b, o + 5, e.clock⟩] w1 (h1.holds _ memZ) (h1.rd_of_blk memZ) (pv_sub q3 (h1.holds (pvA (entQ b o e)) memZ)) (pv_hd h1 (.inl subZ) q3) (St.apart2 (x := .own bs2 (.cells _ 114 (0, 0))) h1 (.inl subZ) rfl bs2 rfl) (fun q hq => by simp only [List.mem_cons, List.not_mem_nil, or_false] at hq; rcases hq with rfl | rfl | rfl <;> exact ok _ (by simp [Ent.nums])) (by simp only [List.length_append]; omega) (by simp)).mono ?_; rintro v w2 ⟨a4, c4, rfl, st⟩; refine LR.back (St.did h1 selZ rfl st (wC_dep _ _ _ _ _)) ?_; clear st h1)))
    all_goals (refine At.stage_same (fun _ h => St.sub h subZ) ?_))
  all_goals (
    apply DW.loud 11
    · exact rfl
    · decide +kernel
    repeat'(first|(apply Go.Hb.kK;(iterate 4 exact rfl);intro bs2)|refine kg' ?_|refine kG' ?_|apply kM|refine kv' ?_|refine kK' fun _=>?_|refine kU' ?_|refine kB' fun _=>?_|refine kA' fun _=>?_|(apply LR.call; (· exact rfl); (intro w1 h1; refine (p87w bc bw a3 c3 (l ++ encs [e.node] ++ encs [e.o1, e.o2]) bs2 [⟨b, o + 3, e.aru⟩, ⟨b, o + 4, e.high⟩, ⟨b, o + 5, e.clock⟩] w1 (h1.holds _ memZ) (h1.rd_of_blk memZ) (pv_sub q3 (h1.holds (pvA (entQ b o e)) memZ)) (pv_hd h1 (.inl subZ) q3) (St.apart2 (x := .own bs2 (.cells _ 114 (0, 0))) h1 (.inl subZ) rfl bs2 rfl) (fun q hq => by simp only [List.mem_cons, List.not_mem_nil, or_false] at hq; rcases hq with rfl | rfl | rfl <;> exact ok _ (by simp [Ent.nums])) (by simp only [List.length_append]; omega) (by simp)).mono ?_; rintro v w2 ⟨a4, c4, rfl, st⟩; refine LR.back (St.did h1 selZ rfl st (wC_dep _ _ _ _ _)) ?_; clear st h1)))
    all_goals (refine At.stage_same (fun _ h => St.sub h subZ) ?_))
  all_goals (first | (apply DW.done_thn; (· decide +kernel)) | (apply DW.done; (· decide +kernel)))
  repeat'(first|refine kv' ?_|apply jJ|refine jE' ?_|refine jp' ?_|(apply jc;kernel_rfl)|refine kg' ?_|refine kG' ?_|refine kB' fun _=>?_|refine kA' fun _=>?_|refine kK' fun _=>?_|refine kU' ?_|((first|refine kR' ?_ ?_|refine kQ' ?_ ?_);all_goals(intro hc;try simp only[hcs]at hc;try(exfalso;first|contradiction|omega))))
  apply end0
  · exact rfl
  intro w' hS
  subst hF
  have e9 : l ++ encs e.nums = l ++ encs [e.node] ++ encs [e.o1, e.o2] ++ encs [e.aru, e.high, e.clock] := by
    rw [show e.nums = [e.node] ++ [e.o1, e.o2] ++ [e.aru, e.high, e.clock] from rfl, encs_app, encs_app, ← List.append_assoc, ← List.append_assoc]
  rw [e9]
  exact ⟨a4, c4, rfl, (hS.sub (L' := [wC bc bw a4 c4 (l ++ encs [e.node] ++ encs [e.o1, e.o2] ++ encs [e.aru, e.high, e.clock])]) subZ).step rfl⟩
end Go.Proofs.YtkolmkdbjagfcaaGreat

namespace Go.Proofs.YtkolmkdbjagfcaaGreat
open Go.Hb
attribute [local irreducible] LR CW At Ev thn blk finK noG again CallsTo DW QL dnext TW DP
set_option maxRecDepth 100000

def atL (b o : Nat) (cs : List Value) : Asrt := .rd (fun k => k = b) (fun w => ∀ j v, cs[j]? = some v → w.cell? ⟨b, o + j, none⟩ = some v)
theorem atL_of {w : World} {b o : Nat} {l cs rest : List Value} (h : Rd w (some ⟨b, 0, none⟩) l) (e : l.drop o = cs ++ rest) : (atL b o cs).holds w := by
  intro j v hj
  have hlt : j < cs.length := (List.getElem?_eq_some_iff.1 hj).1
  have h1 : l[o + j]? = some v := by rw [← List.getElem?_drop, e, List.getElem?_append_left hlt]; exact hj
  have h2 := h.cell h1
  rwa [Nat.zero_add] at h2
theorem wC_w {bc bw : Nat} {a : Option Addr} {c : Nat} {l : List Int} {w : World} (h : (wC bc bw a c l).holds w) : w.cell? ⟨bc, 0, none⟩ = some (.pointer (some ⟨bw, 0, none⟩)) := cell_own h.1
theorem wC_e {bc bw : Nat} {a : Option Addr} {c : Nat} {l : List Int} {w : World} (h : (wC bc bw a c l).holds w) : w.cell? ⟨bc, 2, none⟩ = some (.int .i64 0) := cell_own h.1
theorem atL_live {b o : Nat} {cs : List Value} {w : World} (h : (atL b o cs).holds w) (hn : cs ≠ []) : b < w.heap.size := by
  cases cs with
  | nil => exact absurd rfl hn
  | cons x r =>
    have h1 := h 0 x rfl
    unfold World.cell? at h1
    cases hx : w.heap[b]? with
    | none => simp [hx] at h1
    | some o => exact (Array.getElem?_eq_some_iff.1 hx).1
theorem atL_dep (b o : Nat) (cs : List Value) : (atL b o cs).dep := by
  intro w w' hk h j v hj
  rw [World.cell?_of_block (hk b rfl)]
  exact h j v hj
theorem wL_start {bc bw : Nat} {a : Option Addr} {c : Nat} {l : List Int} {b o : Nat} {cs xs : List Value} {sa : Option Addr} {w : World} (h : (wC bc bw a c l).holds w) (hp : (atL b o cs).holds w) (hn : cs ≠ []) (hr : Rd w sa xs) (hb : ¬ (wC bc bw a c l).foot b) (hd : ∀ k, rdFoot sa xs k → ¬ (wC bc bw a c l).foot k) :
    St w (wC bc bw a c l).foot [wC bc bw a c l, rdA sa xs, atL b o cs] w := by
  have h1 := St.one h (both_live h) (wC_dep _ _ _ _ _)
  have h2 : St w (wC bc bw a c l).foot [rdA sa xs, wC bc bw a c l] w := h1.addRd hr (fun k hk => hd k hk)
  have h3 : St w (wC bc bw a c l).foot [atL b o cs, rdA sa xs, wC bc bw a c l] w := h2.old hp (fun k hk => by cases hk; exact ⟨atL_live hp hn, hb⟩) (atL_dep _ _ _)
  exact front (front h3 1 rfl rfl) 2 rfl rfl
theorem encs_one (n : Int) : encs [n] = enc n.toNat := by unfold encs; simp
theorem encs_snoc_le (l : List Int) : (encs l).length ≤ l.length * 9 := by have := encs_len l; omega
def ivF (x : Int) : List Value := [.int .i64 x]
theorem ivF_len (x : Int) : (ivF x).length = 1 := rfl
theorem iv_flat : ∀ l : List Int, iv l = l.flatMap ivF
  | [] => rfl
  | x :: r => by rw [List.flatMap_cons, ← iv_flat r]; rfl
theorem rd_rowN {α : Type} {f : α → List Value} {n : Nat} (hf : ∀ x, (f x).length = n) {w : World} {b o : Nat} {l : List α} (h : Rd w (some ⟨b, o, none⟩) (l.flatMap f)) {i : Nat} (hi : i < l.length) : ∀ j v, (f l[i])[j]? = some v → w.cell? ⟨b, o + (i : Int).toNat * n + j, none⟩ = some v := by
  intro j v hj
  exact row_cell hf h hi j hj (by simp)
theorem rows_lenN {α : Type} {f : α → List Int} {n : Nat} (hf : ∀ x, (f x).length = n) : ∀ (l : List α), (l.flatMap f).length = l.length * n
  | [] => by simp
  | x :: r => by rw [List.flatMap_cons, List.length_append, hf, rows_lenN hf r, List.length_cons, Nat.add_mul]; omega
def one1 (x : Int) : List Int := [x]
theorem one1_len (x : Int) : (one1 x).length = 1 := rfl
theorem ent_len (e : Ent) : e.nums.length = 6 := rfl
theorem one1_flat : ∀ l : List Int, l.flatMap one1 = l
  | [] => rfl
  | x :: r => by rw [List.flatMap_cons, one1_flat r]; rfl
set_option maxHeartbeats 8000000 in
theorem p91w (bc bw : Nat) (a : Option Addr) (c : Nat) (l : List Int) (b o : Nat) (sa : Option Addr) (sc : Nat) (xs : List Int) (most : Int) (w : World) (h : (wC bc bw a c l).holds w) (hp : (atL b o [.slice sa xs.length sc]).holds w) (hr : Rd w sa (xs.flatMap ivF))
    (hb : ¬ (wC bc bw a c l).foot b) (hd : ∀ k, rdFoot sa (xs.flatMap ivF) k → ¬ (wC bc bw a c l).foot k) (hok : ∀ x ∈ xs, okN x) (hm : l.length ≤ 500000) (hn : (xs.length : Int) ≤ most) (hmost : most ≤ 100) :
    CallsTo Tryz.prog 78 [.pointer (some ⟨bc, 0, none⟩), .pointer (some ⟨b, o, none⟩), .int .i64 most, .func (.func 79) #[] #[]] w fun v w' => ∃ a' c', v = .tuple #[] ∧ Step (wC bc bw a c l) (wC bc bw a' c' (l ++ enc xs.length ++ encs (xs.flatMap one1))) w w' := by
  have hS0 := wL_start h hp (by simp) hr hb hd
  generalize hF : (wC bc bw a c l).foot = F at hS0
  have hl1 := encs_len [(xs.length : Int)]
  have he1 : encs [(xs.length : Int)] = enc xs.length := by rw [encs_one]; rfl
  simp only [List.length_cons, List.length_nil] at hl1
  rw [he1] at hl1
  have hokn : okN (xs.length : Int) := by unfold okN; omega
  refine go_in (n := 60) hS0 Tryz.func78 rfl rfl ?_
  repeat'(first|(apply kA;exact rfl;intro bn)|(apply Go.Hb.kK;(iterate 4 exact rfl);intro bs)|refine kv' ?_|apply jJ|refine jE' ?_|refine jp' ?_|(apply jc;kernel_rfl)|refine kg' ?_|refine kG' ?_|refine kB' fun _=>?_|refine kA' fun _=>?_|refine kK' fun _=>?_|refine kU' ?_|(apply LR.ev; (· first | (apply Ev.load (v := .int .i64 0); (· exact rfl); (· exact fun w' hw' => wC_e (hw'.holds (wC bc bw _ _ _) memZ))) | (apply Ev.load (v := .pointer (some ⟨bw, 0, none⟩)); (· exact rfl); (· exact fun w' hw' => wC_w (hw'.holds (wC bc bw _ _ _) memZ))) | (apply Ev.load (v := .slice sa xs.length sc); (· exact rfl); (· exact fun w' hw' => (hw'.holds (atL b o [.slice sa xs.length sc]) memZ) 0 _ rfl))); (· exact rfl))|(apply LR.call; (· exact rfl); (intro w1 h1; refine (p87w bc bw a c l bs [⟨bn, 0, (xs.length : Int)⟩] w1 (h1.holds _ memZ) (h1.rd_of_blk memZ) (fun q hq => by simp only [List.mem_cons, List.not_mem_nil, or_false] at hq; subst hq; exact cell_own (h1.holds (.own bn (.cells _ _ (0, 0))) memZ)) (fun q hq => by simp only [List.mem_cons, List.not_mem_nil, or_false] at hq; subst hq; exact St.apart2 (x := .own bn (.cells _ 3 (0, 0))) h1 (.inl subZ) rfl bn rfl) (St.apart2 (x := .own bs (.cells _ 114 (0, 0))) h1 (.inl subZ) rfl bs rfl) (fun q hq => by simp only [List.mem_cons, List.not_mem_nil, or_false] at hq; subst hq; exact hokn) (by omega) (by simp)).mono ?_; rintro v w2 ⟨a2, c2, rfl, st⟩; refine LR.back (St.did h1 selZ rfl st (wC_dep _ _ _ _ _)) ?_; clear st h1; rw [show l ++ encs ([(⟨bn, 0, (xs.length : Int)⟩ : PV)].map PV.v) = l ++ enc xs.length from congrArg (l ++ ·) he1]))|((first|refine kR' ?_ ?_|refine kQ' ?_ ?_);all_goals(intro hc;try simp only[hcs]at hc;try(exfalso;first|contradiction|omega))))
  apply CW.loop [9, 48, 49, 50, 51, 52, 53, 54, 55, 56, 57, 58, 59] (fun s : Nat × Option Addr × Nat => s.1 ≤ xs.length) (fun s => [(48, Value.int .i64 (s.1 : Int))])
    (fun s => St w F [wC bc bw s.2.1 s.2.2 (l ++ enc xs.length ++ encs ((xs.take s.1).flatMap one1)), rdA sa (xs.flatMap ivF), atL b o [.slice sa xs.length sc]]) (fun s => xs.length - s.1)
  · intro w' hw'
    refine ⟨(0, a2, c2), by simp, ⟨rfl, trivial⟩, ?_⟩
    show St w F [wC bc bw a2 c2 (l ++ enc xs.length ++ encs []), _, _] w'
    have e0 : l ++ enc xs.length ++ encs [] = l ++ enc xs.length := by show _ ++ [] = _; rw [List.append_nil]
    rw [e0]
    exact hw'.sub subZ
  rintro ⟨i, a1, c1⟩ g hi
  simp only at hi ⊢
  by_cases hlt : i < xs.length
  · have hx := hok _ (List.getElem_mem hlt)
    obtain ⟨bg, og, rfl⟩ := hr.form (rows_ne ivF_len (by decide) hlt)
    have hlen : (encs ((xs.take i).flatMap one1)).length ≤ 6 * 100 * 9 := by
      refine Nat.le_trans (encs_snoc_le _) (Nat.mul_le_mul_right _ ?_)
      rw [rows_lenN one1_len, List.length_take]
      omega
    obtain ⟨K, hK⟩ : ∃ K, K = l ++ enc xs.length ++ encs ((xs.take i).flatMap one1) := ⟨_, rfl⟩
    have hKl : K.length ≤ 600000 := by rw [hK]; simp only [List.length_append]; omega
    rw [← hK]
    repeat'(first|refine kv' ?_|apply jJ|refine jE' ?_|refine jp' ?_|(apply jc;kernel_rfl)|refine kg' ?_|refine kG' ?_|refine kB' fun _=>?_|refine kA' fun _=>?_|refine kK' fun _=>?_|refine kU' ?_|(apply idxX;(iterate 2 exact rfl);(iterate 2(first|omega|(dsimp only;omega)));exact rfl)|(apply LR.ev; (· apply Ev.load (v := .slice (some ⟨bg, og, none⟩) xs.length sc); (· exact rfl); (· exact fun w' hw' => (hw'.holds (atL b o [.slice (some ⟨bg, og, none⟩) xs.length sc]) memZ) 0 _ rfl)); (· exact rfl))|(apply LR.call_val (g := 79) (cap := []); (· exact rfl); (· exact rfl); (intro w1 h1; refine CallsTo.mono (show CallsTo Tryz.prog 79 [.pointer (some ⟨bc, 0, none⟩), .pointer (some ⟨bg, og + (i : Int).toNat * 1, none⟩)] w1 _ from p92w bc bw a1 c1 K bg (og + (i : Int).toNat * 1) xs[i] w1 (h1.holds _ memZ) (fun q hq => (by simp only [List.mem_cons, List.not_mem_nil, or_false] at hq; subst hq; exact rd_rowN ivF_len (h1.rd_of (a := some ⟨bg, og, none⟩) memZ) hlt 0 _ rfl)) (fun q hq => by have e : q.b = bg := (by simp only [List.mem_cons, List.not_mem_nil, or_false] at hq; subst hq; rfl); rw [e]; exact fun hf => St.apart2 (x := wC bc bw a1 c1 K) (y := rdA (some ⟨bg, og, none⟩) (xs.flatMap ivF)) h1 (.inl subZ) rfl bg hf ⟨rows_ne ivF_len (by decide) hlt, _, rfl, rfl⟩) hx (by omega)) ?_; rintro v w2 ⟨a3, c3, rfl, st⟩; refine LR.back (St.did h1 selZ rfl st (wC_dep _ _ _ _ _)) ?_; clear st h1))|((first|refine kR' ?_ ?_|refine kQ' ?_ ?_);all_goals(intro hc;try simp only[hcs]at hc;try(exfalso;first|contradiction|omega))))
    repeat'(first|refine kv' ?_|apply jJ|refine jE' ?_|refine jp' ?_|(apply jc;kernel_rfl)|refine kg' ?_|refine kG' ?_|refine kB' fun _=>?_|refine kA' fun _=>?_|refine kK' fun _=>?_|refine kU' ?_|(apply addX;(iterate 2 exact rfl);(iterate 2(first|omega|(dsimp only;omega)));exact rfl)|((first|refine kR' ?_ ?_|refine kQ' ?_ ?_);all_goals(intro hc;try simp only[hcs]at hc;try(exfalso;first|contradiction|omega))))
    refine At.again (i + 1, a3, c3) (by show i + 1 ≤ _; omega) ?_ ⟨rfl, trivial⟩ (fun w' hw' => ?_) (by show xs.length - (i + 1) < xs.length - i; omega)
    · (repeat (first | exact Out.refl _ _ | exact Out.mix | (apply Out.upd; (· exact rfl)) | (apply Out.updL; (· exact rfl)) | (apply Out.mixs; (· exact rfl))))
    · have e4 : l ++ enc xs.length ++ encs ((xs.take (i + 1)).flatMap one1) = K ++ encs (one1 xs[i]) := by
        rw [hK, List.take_add_one, List.getElem?_eq_getElem hlt, List.flatMap_append, encs_app, ← List.append_assoc]
        simp
      simp only
      rw [e4]
      exact hw'
  · have hie : i = xs.length := by omega
    subst hie
    rw [List.take_length]
    repeat'(first|refine kv' ?_|apply jJ|refine jE' ?_|refine jp' ?_|(apply jc;kernel_rfl)|refine kg' ?_|refine kG' ?_|refine kB' fun _=>?_|refine kA' fun _=>?_|refine kK' fun _=>?_|refine kU' ?_|((first|refine kR' ?_ ?_|refine kQ' ?_ ?_);all_goals(intro hc;try simp only[hcs]at hc;try(exfalso;first|contradiction|omega))))
    apply end0
    · exact rfl
    intro w' hS
    subst hF
    exact ⟨a1, c1, rfl, (hS.sub (L' := [wC bc bw a1 c1 (l ++ enc xs.length ++ encs (xs.flatMap one1))]) subZ).step rfl⟩
set_option maxHeartbeats 8000000 in
theorem p93w (bc bw : Nat) (a : Option Addr) (c : Nat) (l : List Int) (b o : Nat) (sa : Option Addr) (sc : Nat) (xs : List Ent) (most : Int) (w : World) (h : (wC bc bw a c l).holds w) (hp : (atL b o [.slice sa xs.length sc]).holds w) (hr : Rd w sa (xs.flatMap Ent.cells))
    (hb : ¬ (wC bc bw a c l).foot b) (hd : ∀ k, rdFoot sa (xs.flatMap Ent.cells) k → ¬ (wC bc bw a c l).foot k) (hok : ∀ x ∈ xs, ∀ y ∈ x.nums, okN y) (hm : l.length ≤ 500000) (hn : (xs.length : Int) ≤ most) (hmost : most ≤ 100) :
    CallsTo Tryz.prog 80 [.pointer (some ⟨bc, 0, none⟩), .pointer (some ⟨b, o, none⟩), .int .i64 most, .func (.func 81) #[] #[]] w fun v w' => ∃ a' c', v = .tuple #[] ∧ Step (wC bc bw a c l) (wC bc bw a' c' (l ++ enc xs.length ++ encs (xs.flatMap Ent.nums))) w w' := by
  have hS0 := wL_start h hp (by simp) hr hb hd
  generalize hF : (wC bc bw a c l).foot = F at hS0
  have hl1 := encs_len [(xs.length : Int)]
  have he1 : encs [(xs.length : Int)] = enc xs.length := by rw [encs_one]; rfl
  simp only [List.length_cons, List.length_nil] at hl1
  rw [he1] at hl1
  have hokn : okN (xs.length : Int) := by unfold okN; omega
  refine go_in (n := 60) hS0 Tryz.func80 rfl rfl ?_
  repeat'(first|(apply kA;exact rfl;intro bn)|(apply Go.Hb.kK;(iterate 4 exact rfl);intro bs)|refine kv' ?_|apply jJ|refine jE' ?_|refine jp' ?_|(apply jc;kernel_rfl)|refine kg' ?_|refine kG' ?_|refine kB' fun _=>?_|refine kA' fun _=>?_|refine kK' fun _=>?_|refine kU' ?_|(apply LR.ev; (· first | (apply Ev.load (v := .int .i64 0); (· exact rfl); (· exact fun w' hw' => wC_e (hw'.holds (wC bc bw _ _ _) memZ))) | (apply Ev.load (v := .pointer (some ⟨bw, 0, none⟩)); (· exact rfl); (· exact fun w' hw' => wC_w (hw'.holds (wC bc bw _ _ _) memZ))) | (apply Ev.load (v := .slice sa xs.length sc); (· exact rfl); (· exact fun w' hw' => (hw'.holds (atL b o [.slice sa xs.length sc]) memZ) 0 _ rfl))); (· exact rfl))|(apply LR.call; (· exact rfl); (intro w1 h1; refine (p87w bc bw a c l bs [⟨bn, 0, (xs.length : Int)⟩] w1 (h1.holds _ memZ) (h1.rd_of_blk memZ) (fun q hq => by simp only [List.mem_cons, List.not_mem_nil, or_false] at hq; subst hq; exact cell_own (h1.holds (.own bn (.cells _ _ (0, 0))) memZ)) (fun q hq => by simp only [List.mem_cons, List.not_mem_nil, or_false] at hq; subst hq; exact St.apart2 (x := .own bn (.cells _ 3 (0, 0))) h1 (.inl subZ) rfl bn rfl) (St.apart2 (x := .own bs (.cells _ 114 (0, 0))) h1 (.inl subZ) rfl bs rfl) (fun q hq => by simp only [List.mem_cons, List.not_mem_nil, or_false] at hq; subst hq; exact hokn) (by omega) (by simp)).mono ?_; rintro v w2 ⟨a2, c2, rfl, st⟩; refine LR.back (St.did h1 selZ rfl st (wC_dep _ _ _ _ _)) ?_; clear st h1; rw [show l ++ encs ([(⟨bn, 0, (xs.length : Int)⟩ : PV)].map PV.v) = l ++ enc xs.length from congrArg (l ++ ·) he1]))|((first|refine kR' ?_ ?_|refine kQ' ?_ ?_);all_goals(intro hc;try simp only[hcs]at hc;try(exfalso;first|contradiction|omega))))
  apply CW.loop [9, 48, 49, 50, 51, 52, 53, 54, 55, 56, 57, 58, 59] (fun s : Nat × Option Addr × Nat => s.1 ≤ xs.length) (fun s => [(48, Value.int .i64 (s.1 : Int))])
    (fun s => St w F [wC bc bw s.2.1 s.2.2 (l ++ enc xs.length ++ encs ((xs.take s.1).flatMap Ent.nums)), rdA sa (xs.flatMap Ent.cells), atL b o [.slice sa xs.length sc]]) (fun s => xs.length - s.1)
  · intro w' hw'
    refine ⟨(0, a2, c2), by simp, ⟨rfl, trivial⟩, ?_⟩
    show St w F [wC bc bw a2 c2 (l ++ enc xs.length ++ encs []), _, _] w'
    have e0 : l ++ enc xs.length ++ encs [] = l ++ enc xs.length := by show _ ++ [] = _; rw [List.append_nil]
    rw [e0]
    exact hw'.sub subZ
  rintro ⟨i, a1, c1⟩ g hi
  simp only at hi ⊢
  by_cases hlt : i < xs.length
  · have hx := hok _ (List.getElem_mem hlt)
    obtain ⟨bg, og, rfl⟩ := hr.form (rows_ne Ent.cells_len (by decide) hlt)
    have hlen : (encs ((xs.take i).flatMap Ent.nums)).length ≤ 6 * 100 * 9 := by
      refine Nat.le_trans (encs_snoc_le _) (Nat.mul_le_mul_right _ ?_)
      rw [rows_lenN ent_len, List.length_take]
      omega
    obtain ⟨K, hK⟩ : ∃ K, K = l ++ enc xs.length ++ encs ((xs.take i).flatMap Ent.nums) := ⟨_, rfl⟩
    have hKl : K.length ≤ 600000 := by rw [hK]; simp only [List.length_append]; omega
    rw [← hK]
    repeat'(first|refine kv' ?_|apply jJ|refine jE' ?_|refine jp' ?_|(apply jc;kernel_rfl)|refine kg' ?_|refine kG' ?_|refine kB' fun _=>?_|refine kA' fun _=>?_|refine kK' fun _=>?_|refine kU' ?_|(apply idxX;(iterate 2 exact rfl);(iterate 2(first|omega|(dsimp only;omega)));exact rfl)|(apply LR.ev; (· apply Ev.load (v := .slice (some ⟨bg, og, none⟩) xs.length sc); (· exact rfl); (· exact fun w' hw' => (hw'.holds (atL b o [.slice (some ⟨bg, og, none⟩) xs.length sc]) memZ) 0 _ rfl)); (· exact rfl))|(apply LR.call_val (g := 81) (cap := []); (· exact rfl); (· exact rfl); (intro w1 h1; refine CallsTo.mono (show CallsTo Tryz.prog 81 [.pointer (some ⟨bc, 0, none⟩), .pointer (some ⟨bg, og + (i : Int).toNat * 6, none⟩)] w1 _ from p94w bc bw a1 c1 K bg (og + (i : Int).toNat * 6) xs[i] w1 (h1.holds _ memZ) (fun q hq => (by have hrr := rd_rowN Ent.cells_len (h1.rd_of (a := some ⟨bg, og, none⟩) (xs := xs.flatMap Ent.cells) memZ) hlt; simp only [entQ, List.mem_cons, List.not_mem_nil, or_false] at hq; rcases hq with rfl | rfl | rfl | rfl | rfl | rfl; (· exact hrr 0 _ rfl); (· exact hrr 1 _ rfl); (· exact hrr 2 _ rfl); (· exact hrr 3 _ rfl); (· exact hrr 4 _ rfl); (· exact hrr 5 _ rfl))) (fun q hq => by have e : q.b = bg := (by simp only [entQ, List.mem_cons, List.not_mem_nil, or_false] at hq; rcases hq with rfl | rfl | rfl | rfl | rfl | rfl <;> rfl); rw [e]; exact fun hf => St.apart2 (x := wC bc bw a1 c1 K) (y := rdA (some ⟨bg, og, none⟩) (xs.flatMap Ent.cells)) h1 (.inl subZ) rfl bg hf ⟨rows_ne Ent.cells_len (by decide) hlt, _, rfl, rfl⟩) hx (by omega)) ?_; rintro v w2 ⟨a3, c3, rfl, st⟩; refine LR.back (St.did h1 selZ rfl st (wC_dep _ _ _ _ _)) ?_; clear st h1))|((first|refine kR' ?_ ?_|refine kQ' ?_ ?_);all_goals(intro hc;try simp only[hcs]at hc;try(exfalso;first|contradiction|omega))))
    repeat'(first|refine kv' ?_|apply jJ|refine jE' ?_|refine jp' ?_|(apply jc;kernel_rfl)|refine kg' ?_|refine kG' ?_|refine kB' fun _=>?_|refine kA' fun _=>?_|refine kK' fun _=>?_|refine kU' ?_|(apply addX;(iterate 2 exact rfl);(iterate 2(first|omega|(dsimp only;omega)));exact rfl)|((first|refine kR' ?_ ?_|refine kQ' ?_ ?_);all_goals(intro hc;try simp only[hcs]at hc;try(exfalso;first|contradiction|omega))))
    refine At.again (i + 1, a3, c3) (by show i + 1 ≤ _; omega) ?_ ⟨rfl, trivial⟩ (fun w' hw' => ?_) (by show xs.length - (i + 1) < xs.length - i; omega)
    · (repeat (first | exact Out.refl _ _ | exact Out.mix | (apply Out.upd; (· exact rfl)) | (apply Out.updL; (· exact rfl)) | (apply Out.mixs; (· exact rfl))))
    · have e4 : l ++ enc xs.length ++ encs ((xs.take (i + 1)).flatMap Ent.nums) = K ++ encs (Ent.nums xs[i]) := by
        rw [hK, List.take_add_one, List.getElem?_eq_getElem hlt, List.flatMap_append, encs_app, ← List.append_assoc]
        simp
      simp only
      rw [e4]
      exact hw'
  · have hie : i = xs.length := by omega
    subst hie
    rw [List.take_length]
    repeat'(first|refine kv' ?_|apply jJ|refine jE' ?_|refine jp' ?_|(apply jc;kernel_rfl)|refine kg' ?_|refine kG' ?_|refine kB' fun _=>?_|refine kA' fun _=>?_|refine kK' fun _=>?_|refine kU' ?_|((first|refine kR' ?_ ?_|refine kQ' ?_ ?_);all_goals(intro hc;try simp only[hcs]at hc;try(exfalso;first|contradiction|omega))))
    apply end0
    · exact rfl
    intro w' hS
    subst hF
    exact ⟨a1, c1, rfl, (hS.sub (L' := [wC bc bw a1 c1 (l ++ enc xs.length ++ encs (xs.flatMap Ent.nums))]) subZ).step rfl⟩
end Go.Proofs.YtkolmkdbjagfcaaGreat

namespace Go.Proofs.YtkolmkdbjagfcaaGreat
open Go.Hb
attribute [local irreducible] LR CW At Ev thn blk finK noG again CallsTo DW QL dnext TW DP
set_option maxRecDepth 100000

theorem atL_agg {b o : Nat} {cs : List Value} {w : World} (h : (atL b o cs).holds w) : ∀ j v, cs[j]? = some v → w.cell? ((⟨b, o, none⟩ : Addr).add j) = some v := by
  intro j v hj
  rw [addr_add]
  exact h j v hj
set_option maxHeartbeats 4000000 in
theorem p90w (bc bw : Nat) (a : Option Addr) (c : Nat) (l : List Int) (b o : Nat) (ma : Option Addr) (mc : Nat) (m : Msg) (w : World) (h : (wC bc bw a c l).holds w) (hp : (atL b o (m.cells ma mc)).holds w) (hr : Rd w ma (bv m.body))
    (hb : ¬ (wC bc bw a c l).foot b) (hd : ∀ k, rdFoot ma (bv m.body) k → ¬ (wC bc bw a c l).foot k) (hz : ma = none → mc = 0) (hB : Byt m.body) (hck : check m = 0) (hm : l.length ≤ 800000) :
    CallsTo Tryz.prog 77 [.pointer (some ⟨bc, 0, none⟩), .pointer (some ⟨b, o, none⟩)] w fun v w' => ∃ a' c', v = .tuple #[] ∧ Step (wC bc bw a c l) (wC bc bw a' c' (l ++ enc (bytesM m).length ++ bytesM m)) w w' := by
  have hS0 := wL_start h hp (by simp [Msg.cells]) hr hb hd
  generalize hF : (wC bc bw a c l).foot = F at hS0
  have hlb := bytesM_len m
  have hbl := (check_ok hck).1
  have hpk : pack m = (bytesM m, 0) := by unfold pack; rw [if_neg (by simp [hck])]
  refine go_in (n := 65) (hS0.part (Asrt.dep_own _ _) (wrA_dep _ _ _ _)) Tryz.func77 rfl rfl ?_
  repeat'(first|refine kv' ?_|apply jJ|refine jE' ?_|refine jp' ?_|(apply jc;kernel_rfl)|refine kg' ?_|refine kG' ?_|refine kB' fun _=>?_|refine kA' fun _=>?_|refine kK' fun _=>?_|refine kU' ?_|(apply LR.ev; (· apply Ev.load_agg_at (cs := m.cells ma mc); (· exact rfl); (· exact rfl); (· exact fun w' hw' => atL_agg (hw'.holds (atL b o (m.cells ma mc)) memZ))); (· exact rfl))|(apply LR.call; (· exact rfl); (intro w1 h1; refine CallsTo.mono (show CallsTo Tryz.prog 107 [m.val ma mc] w1 (fun v w' => ∃ a2 c2, v = .tuple [.slice a2 (bytesM m).length c2, .int .i64 0].toArray ∧ NewSl w1 w' (.slice a2 (bytesM m).length c2) 5 1 (bytesM m).length (bv (bytesM m))) from by (have hq := c15 m ma mc w1 (h1.rd_of (a := ma) (xs := bv m.body) memZ) hz (by omega) hB); rw [hpk] at hq; exact hq) ?_; rintro v w2 ⟨a3, c3, rfl, hn⟩; refine LR.back (h1.newSl hn) ?_; clear hn h1))|(apply LR.call; (· exact rfl); (intro w1 h1; refine CallsTo.mono (show CallsTo Tryz.prog 108 [.pointer (some ⟨bw, 0, none⟩), .slice a3 (bytesM m).length c3] w1 _ from c55 bw a a3 c c3 l (bytesM m) w1 (h1.holds (wrA 112 [.bool true] bw a c l) memZ) (h1.rd_of_own memZ) (fun e => (ownsRow_some (h1.g0) e).2) (fun k hk hf => by obtain ⟨_, ad, e, rfl⟩ := hk; subst e; exact St.apart2 (y := wrA 112 [.bool true] bw a c l) h1 (.inl subZ) rfl ad.block (x := osl (.slice (some ad) (bytesM m).length c3) 5 1 (bytesM m).length (bv (bytesM m))) rfl hf) (by omega) (by omega)) ?_; rintro v w2 ⟨a4, c4, rfl, st⟩; refine LR.back (St.did h1 selZ rfl st (wrA_dep _ _ _ _)) ?_; clear st h1))|((first|refine kR' ?_ ?_|refine kQ' ?_ ?_);all_goals(intro hc;try simp only[hcs]at hc;try(exfalso;first|contradiction|omega))))
  apply ret0
  · exact rfl
  intro w' hS
  subst hF
  exact ⟨a4, c4, rfl, ((hS.sub (L' := [codB bc (some ⟨bw, 0, none⟩) none 0, wrA 112 [.bool true] bw a4 c4 (l ++ enc (bytesM m).length ++ bytesM m)]) subZ).join rfl rfl).step rfl⟩
end Go.Proofs.YtkolmkdbjagfcaaGreat
