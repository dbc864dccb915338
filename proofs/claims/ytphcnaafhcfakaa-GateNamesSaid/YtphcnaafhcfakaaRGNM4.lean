/-
  The numbers and examples of gates. Conditions: none.
-/
import Derived.Test.YtphcnaafhcfakaaRGNM3

set_option linter.unusedSimpArgs false
set_option linter.unusedVariables false
namespace Go.Hb
set_option linter.unusedSimpArgs false
set_option linter.unusedVariables false

structure Gst where
  a : Option Addr
  b : Nat
  c : Nat
  e : Nat
abbrev Gh := Nat → Gst
def gset (g : Gh) (t : Nat) (x : Gst) : Gh := fun s => bif Nat.beq s t then x else g s
theorem gset_ne (g : Gh) {t s : Nat} (x : Gst) (h : s ≠ t) : gset g t x s = g s := by
  unfold gset
  cases hb : Nat.beq s t with
  | true => exact absurd (Nat.eq_of_beq_eq_true hb) h
  | false => rfl
structure IT where
  i : Nat
  d : Nat
  loc : List Nat
  val : Gh → Value
  A : Gh → List Asrt
def depF (g : Gh) (f : Frm) : List IT → Frm
  | [] => f
  | it :: r => upd (depF g f r) it.d (it.val g)
def depA (g : Gh) : List IT → List Asrt
  | [] => []
  | it :: r => it.A g ++ depA g r
def extF (f : Frm) : List (Nat × Value) → Frm
  | [] => f
  | q :: r => upd (extF f r) q.1 q.2
def ipost (w0 : World) (F : Nat → Prop) (it : IT) (g : Gh) (LA : List Asrt) (fr : Frm) : Post :=
  only fun f' w' => ∃ x, (∀ t, f' t = upd fr it.d (it.val (gset g it.d x)) t) ∧ St w0 F (it.A (gset g it.d x) ++ LA) w'
def ILoc (it : IT) : Prop := ∀ g g' : Gh, (∀ t ∈ it.loc, g t = g' t) → it.val g = it.val g' ∧ it.A g = it.A g'
def IOk (P : Program) (n : Nat) (ops : List Oper) (w0 : World) (F : Nat → Prop) (L : List Asrt) (ext : List (Nat × Value)) (it : IT) (D : List IT) : Prop :=
  ∃ o, ops[it.i]? = some o ∧ ∀ (g : Gh) (h : Frm) (R LA : List Asrt), LA = depA g D ++ (L ++ R) →
    LR false P n ops [o] (ipost w0 F it g LA (depF g (extF h ext) D)) (depF g (extF h ext) D) (St w0 F LA)
def hard (ops : List Oper) (j : Nat) : List Nat := match ops[j]? with
  | some o => (o.after.toList.filter (Region.binds .any)).map (·.on)
  | none => []
def depsOf (Φ : List (IT × List Nat)) (ks : List Nat) : List IT := ks.map fun k => (Φ.getD k (⟨0, 0, [], fun _ => undef, fun _ => []⟩, [])).1
def AllOk (P : Program) (n : Nat) (ops : List Oper) (w0 : World) (F : Nat → Prop) (L : List Asrt) (ext : List (Nat × Value)) (Φ : List (IT × List Nat)) : List (IT × List Nat) → Prop
  | [] => True
  | p :: r => (ILoc p.1 ∧ IOk P n ops w0 F L ext p.1 (depsOf Φ p.2)) ∧ AllOk P n ops w0 F L ext Φ r
abbrev INum := Nat × Nat × List Nat × List Nat
def numsOf (Φ : List (IT × List Nat)) : List INum := Φ.map fun p => (p.1.i, p.1.d, p.1.loc, p.2)
def crowdB (ops : List Oper) (done : List Nat) (ex : List Nat) (N : List INum) : Bool :=
  decide (done ++ N.map (·.1)).Nodup && decide (N.map (·.2.1)).Nodup && Nat.beq ops.length (done.length + N.length) && ((List.range ops.length).all fun j => (done ++ N.map (·.1)).contains j) &&
  ((List.range ops.length).all fun j => (hard ops j).all fun k => Nat.blt k j) && (ex.all fun s => !(N.map (·.2.1)).contains s) &&
  (N.all fun x => decide x.2.2.2.Nodup && x.2.2.2.all (fun k => Nat.blt k N.length && (hard ops x.1).contains (N.getD k (0, 0, [], [])).1) &&
    x.2.2.1.all (fun t => Nat.beq t x.2.1 || x.2.2.2.any fun k => Nat.beq t (N.getD k (0, 0, [], [])).2.1 || (N.getD k (0, 0, [], [])).2.2.1.contains t))

def regOf : Code → Nat → List Oper
  | .region id ops _, k => bif Nat.beq id k then ops.toList else []
  | .seq a b, k => regOf a k ++ regOf b k
  | .cond _ a b, k => regOf a k ++ regOf b k
  | .block _ c, k => regOf c k
  | .loop c, k => regOf c k
  | .scope c, k => regOf c k
  | _, _ => []
theorem At.item {w0 : World} {F : Nat → Prop} {it : IT} {g : Gh} {LA : List Asrt} {fr f' : Frm} {C : World → Prop} (x : Gst) (hf : f' = upd fr it.d (it.val (gset g it.d x))) (hC : ∀ w, C w → St w0 F (it.A (gset g it.d x) ++ LA) w) : At (ipost w0 F it g LA fr) .normal f' C :=
  fun w hw => ⟨rfl, x, fun t => by rw [hf], hC w hw⟩
section
variable {P : Program} {n : Nat} {ops : List Oper} {Q : Post} {f : Frm} {S : World → Prop} {w0 : World} {F : Nat → Prop} {L : List Asrt} {done : List Nat} {ext : List (Nat × Value)} {Φ : List (IT × List Nat)}

theorem AllOk.get : ∀ {Ψ : List (IT × List Nat)}, AllOk P n ops w0 F L ext Φ Ψ → ∀ p ∈ Ψ, ILoc p.1 ∧ IOk P n ops w0 F L ext p.1 (depsOf Φ p.2)
  | q :: r, h, p, hp => by
    rcases List.mem_cons.1 hp with rfl | hp
    · exact h.1
    · exact AllOk.get h.2 p hp
theorem depF_self {g : Gh} {h : Frm} : ∀ {D : List IT}, (∀ q ∈ D, h q.d = q.val g) → depF g h D = h
  | [], _ => rfl
  | q :: r, hh => by
    have ih := depF_self (g := g) (h := h) (D := r) fun x hx => hh x (List.mem_cons_of_mem _ hx)
    funext t
    show upd (depF g h r) q.d (q.val g) t = h t
    rw [ih]
    by_cases e : t = q.d
    · subst e; rw [upd_same]; exact (hh q List.mem_cons_self).symm
    · rw [upd_ne _ _ _ _ e]
theorem extF_self {h : Frm} : ∀ {ext : List (Nat × Value)}, (∀ q ∈ ext, h q.1 = q.2) → extF h ext = h
  | [], _ => rfl
  | q :: r, hh => by
    have ih := extF_self (h := h) (ext := r) fun x hx => hh x (List.mem_cons_of_mem _ hx)
    funext t
    show upd (extF h r) q.1 q.2 t = h t
    rw [ih]
    by_cases e : t = q.1
    · subst e; rw [upd_same]; exact (hh q List.mem_cons_self).symm
    · rw [upd_ne _ _ _ _ e]
theorem depF_off {g : Gh} {h : Frm} {t : Nat} : ∀ {D : List IT}, t ∉ D.map IT.d → depF g h D t = h t
  | [], _ => rfl
  | q :: r, hh => by
    simp only [List.map_cons, List.mem_cons, not_or] at hh
    show upd _ _ _ t = _
    rw [upd_ne _ _ _ _ hh.1]
    exact depF_off hh.2
theorem depF_at {g : Gh} {h : Frm} {q : IT} : ∀ {D : List IT}, (D.map IT.d).Nodup → q ∈ D → depF g h D q.d = q.val g
  | p :: r, hn, hq => by
    rw [List.map_cons, List.nodup_cons] at hn
    show upd _ _ _ q.d = _
    rcases List.mem_cons.1 hq with rfl | hq
    · rw [upd_same]
    · have : q.d ≠ p.d := fun e => hn.1 (e ▸ List.mem_map.2 ⟨q, hq, rfl⟩)
      rw [upd_ne _ _ _ _ this]
      exact depF_at hn.2 hq
theorem depA_perm {g : Gh} {D E : List IT} (h : D.Perm E) : (depA g D).Perm (depA g E) := by
  induction h with
  | nil => exact List.Perm.refl _
  | cons x _ ih => exact ih.append_left _
  | swap x y l =>
    show (y.A g ++ (x.A g ++ depA g l)).Perm (x.A g ++ (y.A g ++ depA g l))
    rw [← List.append_assoc, ← List.append_assoc]
    exact List.perm_append_comm.append_right _
  | trans _ _ h1 h2 => exact h1.trans h2
theorem depA_append {g : Gh} : ∀ (D E : List IT), depA g (D ++ E) = depA g D ++ depA g E
  | [], E => rfl
  | q :: r, E => by
    show q.A g ++ depA g (r ++ E) = q.A g ++ depA g r ++ depA g E
    rw [depA_append r E, List.append_assoc]
theorem depA_same {g g' : Gh} : ∀ {D : List IT}, (∀ q ∈ D, q.A g = q.A g') → depA g D = depA g' D
  | [], _ => rfl
  | q :: r, h => by
    show q.A g ++ depA g r = q.A g' ++ depA g' r
    rw [h q List.mem_cons_self, depA_same fun x hx => h x (List.mem_cons_of_mem _ hx)]
theorem take_out : ∀ {D E : List IT}, (D.map IT.i).Nodup → (∀ q ∈ D, q ∈ E) → ∃ E', E.Perm (D ++ E')
  | [], E, _, _ => ⟨E, List.Perm.refl _⟩
  | q :: r, E, hn, hs => by
    rw [List.map_cons, List.nodup_cons] at hn
    obtain ⟨s, t, rfl⟩ := List.append_of_mem (hs q List.mem_cons_self)
    have hp : (s ++ q :: t).Perm (q :: (s ++ t)) := List.perm_middle
    obtain ⟨E', he⟩ := take_out (D := r) (E := s ++ t) hn.2 (fun x hx => by
      have h1 := hp.mem_iff.1 (hs x (List.mem_cons_of_mem _ hx))
      rcases List.mem_cons.1 h1 with rfl | h1
      · exact (hn.1 (List.mem_map.2 ⟨x, hx, rfl⟩)).elim
      · exact h1)
    exact ⟨E', hp.trans (he.cons q)⟩
theorem inj_on {α β : Type} {m : α → β} : ∀ {l : List α}, (l.map m).Nodup → ∀ {x y : α}, x ∈ l → y ∈ l → m x = m y → x = y
  | z :: r, hn, x, y, hx, hy, e => by
    rw [List.map_cons, List.nodup_cons] at hn
    rcases List.mem_cons.1 hx with h1 | h1
    · subst h1
      rcases List.mem_cons.1 hy with h2 | h2
      · exact h2.symm
      · exact (hn.1 (List.mem_map.2 ⟨y, h2, e.symm⟩)).elim
    · rcases List.mem_cons.1 hy with h2 | h2
      · subst h2
        exact (hn.1 (List.mem_map.2 ⟨x, h1, e⟩)).elim
      · exact inj_on hn.2 h1 h2 e

structure CrowdOk (ops : List Oper) (done ex : List Nat) (Φ : List (IT × List Nat)) : Prop where
  nd : (done ++ (Φ.map Prod.fst).map IT.i).Nodup
  dd : ((Φ.map Prod.fst).map IT.d).Nodup
  len : ops.length = done.length + Φ.length
  all : ∀ j, j < ops.length → j ∈ done ++ (Φ.map Prod.fst).map IT.i
  low : ∀ j, j < ops.length → ∀ k ∈ hard ops j, k < j
  ex : ∀ s ∈ ex, s ∉ (Φ.map Prod.fst).map IT.d
  dn : ∀ p ∈ Φ, ((depsOf Φ p.2).map IT.i).Nodup
  din : ∀ p ∈ Φ, ∀ q ∈ depsOf Φ p.2, q ∈ Φ.map Prod.fst
  dh : ∀ p ∈ Φ, ∀ q ∈ depsOf Φ p.2, q.i ∈ hard ops p.1.i
  loc : ∀ p ∈ Φ, ∀ t ∈ p.1.loc, t = p.1.d ∨ ∃ q ∈ depsOf Φ p.2, t = q.d ∨ t ∈ q.loc
theorem getD_nums {Φ : List (IT × List Nat)} {k : Nat} (h : k < Φ.length) : (numsOf Φ).getD k (0, 0, [], []) = ((Φ.getD k (⟨0, 0, [], fun _ => undef, fun _ => []⟩, [])).1.i, (Φ.getD k (⟨0, 0, [], fun _ => undef, fun _ => []⟩, [])).1.d, (Φ.getD k (⟨0, 0, [], fun _ => undef, fun _ => []⟩, [])).1.loc, (Φ.getD k (⟨0, 0, [], fun _ => undef, fun _ => []⟩, [])).2) := by
  unfold numsOf
  simp [List.getD_eq_getElem?_getD, h]
theorem nodup_map_on {α β : Type} {m : α → β} : ∀ {l : List α}, l.Nodup → (∀ x ∈ l, ∀ y ∈ l, m x = m y → x = y) → (l.map m).Nodup
  | [], _, _ => List.nodup_nil
  | x :: r, hn, hi => by
    rw [List.nodup_cons] at hn
    rw [List.map_cons, List.nodup_cons]
    refine ⟨fun h => ?_, nodup_map_on hn.2 fun a ha b hb => hi a (List.mem_cons_of_mem _ ha) b (List.mem_cons_of_mem _ hb)⟩
    obtain ⟨y, hy, e⟩ := List.mem_map.1 h
    exact hn.1 (hi y (List.mem_cons_of_mem _ hy) x List.mem_cons_self e ▸ hy)
theorem crowd_ok {N : List INum} {ex : List Nat} (hN : numsOf Φ = N) (h : crowdB ops done ex N = true) : CrowdOk ops done ex Φ := by
  subst hN
  have e1 : (numsOf Φ).map (·.1) = (Φ.map Prod.fst).map IT.i := by unfold numsOf; simp [List.map_map, Function.comp_def]
  have e2 : (numsOf Φ).map (·.2.1) = (Φ.map Prod.fst).map IT.d := by unfold numsOf; simp [List.map_map, Function.comp_def]
  have e3 : (numsOf Φ).length = Φ.length := by unfold numsOf; simp
  unfold crowdB at h
  rw [e1, e2, e3] at h
  simp only [Bool.and_eq_true, decide_eq_true_eq, List.all_eq_true, List.mem_range] at h
  obtain ⟨⟨⟨⟨⟨⟨h1, h2⟩, h3⟩, h4⟩, h5⟩, h6⟩, h7⟩ := h
  have key : ∀ p ∈ Φ, p.2.Nodup ∧ (∀ k ∈ p.2, k < Φ.length ∧ (hard ops p.1.i).contains (Φ.getD k (⟨0, 0, [], fun _ => undef, fun _ => []⟩, [])).1.i = true) ∧
      ∀ t ∈ p.1.loc, t = p.1.d ∨ ∃ k ∈ p.2, t = (Φ.getD k (⟨0, 0, [], fun _ => undef, fun _ => []⟩, [])).1.d ∨ t ∈ (Φ.getD k (⟨0, 0, [], fun _ => undef, fun _ => []⟩, [])).1.loc := by
    intro p hp
    have h8 := h7 (p.1.i, p.1.d, p.1.loc, p.2) (List.mem_map.2 ⟨p, hp, rfl⟩)
    obtain ⟨⟨a1, a2⟩, a3⟩ := h8
    have hb : ∀ k ∈ p.2, k < Φ.length := fun k hk => Nat.le_of_ble_eq_true (a2 k hk).1
    refine ⟨a1, fun k hk => ⟨hb k hk, ?_⟩, fun t ht => ?_⟩
    · have := (a2 k hk).2
      rw [getD_nums (hb k hk)] at this
      exact this
    · have := a3 t ht
      rw [Bool.or_eq_true] at this
      rcases this with h9 | h9
      · exact .inl (Nat.eq_of_beq_eq_true h9)
      · obtain ⟨k, hk, h9⟩ := List.any_eq_true.1 h9
        rw [getD_nums (hb k hk), Bool.or_eq_true] at h9
        refine .inr ⟨k, hk, ?_⟩
        rcases h9 with h9 | h9
        · exact .inl (Nat.eq_of_beq_eq_true h9)
        · exact .inr (by simpa using h9)
  have hmem : ∀ p ∈ Φ, ∀ k ∈ p.2, (Φ.getD k (⟨0, 0, [], fun _ => undef, fun _ => []⟩, [])) ∈ Φ := by
    intro p hp k hk
    have hk := ((key p hp).2.1 k hk).1
    rw [List.getD_eq_getElem?_getD, List.getElem?_eq_getElem hk]
    exact List.getElem_mem hk
  have hn : ((Φ.map Prod.fst).map IT.i).Nodup := (List.nodup_append.1 h1).2.1
  refine ⟨h1, h2, Nat.eq_of_beq_eq_true h3, fun j hj => by simpa using h4 j hj, fun j hj k hk => Nat.le_of_ble_eq_true (h5 j hj k hk), fun s hs hx => ?_, fun p hp => ?_, fun p hp q hq => ?_, fun p hp q hq => ?_, fun p hp t ht => ?_⟩
  · have h8 := h6 s hs
    have : ((Φ.map Prod.fst).map IT.d).contains s = true := List.elem_eq_true_of_mem hx
    rw [this] at h8
    cases h8
  · unfold depsOf
    rw [List.map_map]
    refine nodup_map_on (key p hp).1 fun k hk k' hk' e => ?_
    have hk1 := ((key p hp).2.1 k hk).1
    have hk2 := ((key p hp).2.1 k' hk').1
    simp only [Function.comp_def, List.getD_eq_getElem?_getD, List.getElem?_eq_getElem hk1, List.getElem?_eq_getElem hk2, Option.getD_some] at e
    rw [List.map_map] at hn
    have := List.pairwise_iff_getElem.1 hn
    rcases Nat.lt_trichotomy k k' with h | h | h
    · exact absurd (by simp only [List.getElem_map, Function.comp_def]; exact e) (this k k' (by simpa using hk1) (by simpa using hk2) h)
    · exact h
    · exact absurd (by simp only [List.getElem_map, Function.comp_def]; exact e.symm) (this k' k (by simpa using hk2) (by simpa using hk1) h)
  · obtain ⟨k, hk, rfl⟩ := List.mem_map.1 hq
    exact List.mem_map.2 ⟨_, hmem p hp k hk, rfl⟩
  · obtain ⟨k, hk, rfl⟩ := List.mem_map.1 hq
    simpa using ((key p hp).2.1 k hk).2
  · rcases (key p hp).2.2 t ht with h8 | ⟨k, hk, h8⟩
    · exact .inl h8
    · exact .inr ⟨_, List.mem_map.2 ⟨k, hk, rfl⟩, h8⟩
theorem hard_listed {j k : Nat} {l : List Nat} (h : j ∈ Region.ready .any ops.toArray (lst ops l)) (hk : k ∈ hard ops j) (hkl : k < ops.length) : k ∈ l := by
  obtain ⟨_, o, ho, ha⟩ := mem_ready.1 h
  have ho : ops[j]? = some o := by simpa using ho
  unfold hard at hk
  rw [ho] at hk
  obtain ⟨e, he, rfl⟩ := List.mem_map.1 hk
  rw [List.mem_filter] at he
  have := ha e (by simpa using he.1) he.2
  rw [lst_getD _ hkl] at this
  simpa using this
theorem ready_some {l : List Nat} (hlow : ∀ j, j < ops.length → ∀ k ∈ hard ops j, k < j) {j : Nat} (hj : j < ops.length) (hjl : j ∉ l) : Region.ready .any ops.toArray (lst ops l) ≠ [] := by
  induction j using Nat.strongRecOn with
  | _ j ih =>
    by_cases hx : ∃ k, k < j ∧ k ∉ l
    · obtain ⟨k, h1, h2⟩ := hx
      exact ih k h1 (by omega) h2
    · intro h0
      have hall : ∀ k, k < j → k ∈ l := fun k hk => Classical.byContradiction fun hn => hx ⟨k, hk, hn⟩
      have : j ∈ Region.ready .any ops.toArray (lst ops l) := by
        refine mem_ready.2 ⟨?_, ops[j], by simp [hj], fun e he hb => ?_⟩
        · rw [lst_getD _ hj]; simpa using hjl
        · have hk : e.on ∈ hard ops j := by
            unfold hard
            rw [List.getElem?_eq_getElem hj]
            exact List.mem_map.2 ⟨e, List.mem_filter.2 ⟨by simpa using he, hb⟩, rfl⟩
          have hlt := hlow j hj _ hk
          rw [lst_getD _ (by omega)]
          simpa using hall _ hlt
      rw [h0] at this
      cases this
theorem DW.crowd {N : List INum} (Φ : List (IT × List Nat)) (ext : List (Nat × Value)) (hN : numsOf Φ = N) (hB : crowdB ops done (ext.map Prod.fst) N = true) (hext : ∀ q ∈ ext, f q.1 = q.2)
    (hok : AllOk P n ops w0 F L ext Φ Φ) (hS : ∀ A w, St w0 F (A ++ L) w → S w)
    (h : ∀ g, DW P n ops Q (done ++ N.map (·.1)) S (depF g f (Φ.map Prod.fst)) (St w0 F (depA g (Φ.map Prod.fst) ++ L))) : DW P n ops Q done S f (St w0 F L) := by
  have hc := crowd_ok (ops := ops) (done := done) hN hB
  have eN : N.map (·.1) = (Φ.map Prod.fst).map IT.i := by rw [← hN]; unfold numsOf; simp [List.map_map, Function.comp_def]
  rw [eN] at h
  have hin : ((Φ.map Prod.fst).map IT.i).Nodup := (List.nodup_append.1 hc.nd).2.1
  suffices key : ∀ m (E : List IT) (g : Gh), m + E.length = Φ.length → (E.map IT.i).Nodup → (∀ it ∈ E, it ∈ Φ.map Prod.fst) → (∀ it ∈ E, ∀ t ∈ it.loc, t ∈ E.map IT.d) →
      ∀ w, St w0 F (depA g E ++ L) w → ∀ fr, (∀ it ∈ E, fr it.d = it.val g) → (∀ t, t ∉ E.map IT.d → fr t = f t) → ∀ a, Fits n a fr →
      wpAnyH P .any ops.toArray (lift n (only fun f w => Q .normal f w)) S (ops.length - (done.length + E.length)) (lst ops (done ++ E.map IT.i)) a w by
    intro w hw a ha
    have := key Φ.length [] (fun _ => ⟨none, 0, 0, 0⟩) rfl List.nodup_nil (fun _ h => by cases h) (fun _ h => by cases h) w hw f (fun _ h => by cases h) (fun _ _ => rfl) a ha
    simpa using this
  intro m
  induction m with
  | zero =>
    intro E g hm hnd hsub hcl w hw fr hfr hfo a ha
    obtain ⟨E', hp⟩ := take_out (D := E) (E := Φ.map Prod.fst) hnd hsub
    have hE' : E' = [] := by
      have := hp.length_eq
      simp only [List.length_map, List.length_append] at this
      exact List.eq_nil_of_length_eq_zero (by omega)
    rw [hE', List.append_nil] at hp
    have hf : fr = depF g f (Φ.map Prod.fst) := by
      funext t
      by_cases ht : t ∈ (Φ.map Prod.fst).map IT.d
      · obtain ⟨q, hq, rfl⟩ := List.mem_map.1 ht
        rw [depF_at hc.dd hq]
        exact hfr q (hp.mem_iff.1 hq)
      · rw [depF_off ht]
        exact hfo t fun hx => ht ((hp.map IT.d).mem_iff.2 hx)
    have h1 := h g w (hw.perm ((depA_perm hp.symm).append_right L)) a (hf ▸ ha)
    have e1 : lst ops (done ++ E.map IT.i) = lst ops (done ++ (Φ.map Prod.fst).map IT.i) := lst_perm ((hp.symm.map IT.i).append_left done)
    have e2 : ops.length - (done.length + E.length) = ops.length - (done ++ (Φ.map Prod.fst).map IT.i).length := by simp only [List.length_append, List.length_map]; omega
    rw [e1, e2]
    exact h1
  | succ m ih =>
    intro E g hm hnd hsub hcl w hw fr hfr hfo a ha
    have hlen := hc.len
    obtain ⟨fuel, hfuel⟩ : ∃ fuel, ops.length - (done.length + E.length) = fuel + 1 := ⟨ops.length - (done.length + E.length) - 1, by omega⟩
    rw [hfuel]
    have hmore : ∃ j, j < ops.length ∧ j ∉ done ++ E.map IT.i := by
      refine Classical.byContradiction fun hno => ?_
      have hall : ∀ j, j < ops.length → j ∈ done ++ E.map IT.i := fun j hj => Classical.byContradiction fun hn => hno ⟨j, hj, hn⟩
      have h1 : (List.range ops.length).length ≤ (done ++ E.map IT.i).length := by
        have hsp : ∀ (l r : List Nat), l.Nodup → (∀ x ∈ l, x ∈ r) → l.length ≤ r.length := by
          intro l
          induction l with
          | nil => intro r _ _; simp
          | cons x l ihl =>
            intro r hn hs
            rw [List.nodup_cons] at hn
            obtain ⟨s, t, rfl⟩ := List.append_of_mem (hs x List.mem_cons_self)
            have := ihl (s ++ t) hn.2 fun y hy => by
              have h2 := hs y (List.mem_cons_of_mem _ hy)
              simp only [List.mem_append, List.mem_cons] at h2 ⊢
              rcases h2 with h2 | rfl | h2
              · exact .inl h2
              · exact (hn.1 hy).elim
              · exact .inr h2
            simp only [List.length_cons, List.length_append] at this ⊢
            omega
        exact hsp _ _ List.nodup_range fun x hx => hall x (List.mem_range.1 hx)
      simp only [List.length_range, List.length_append, List.length_map] at h1
      omega
    obtain ⟨j0, hj0, hj0l⟩ := hmore
    refine ⟨fun h0 => (ready_some hc.low hj0 hj0l h0).elim, fun j hj => ?_⟩
    have hjn := ready_new hj
    have hjlt : j < ops.length := by
      obtain ⟨_, o, ho, _⟩ := mem_ready.1 hj
      simpa using (Array.getElem?_eq_some_iff.1 ho).1
    have hjin : j ∈ (Φ.map Prod.fst).map IT.i := by
      rcases List.mem_append.1 (hc.all j hjlt) with h1 | h1
      · exact (hjn (List.mem_append_left _ h1)).elim
      · exact h1
    obtain ⟨it, hit, rfl⟩ := List.mem_map.1 hjin
    obtain ⟨p, hp, rfl⟩ := List.mem_map.1 hit
    have hnE : p.1 ∉ E := fun hx => hjn (List.mem_append_right _ (List.mem_map.2 ⟨_, hx, rfl⟩))
    have hdE : ∀ q ∈ depsOf Φ p.2, q ∈ E := by
      intro q hq
      have hqΦ := hc.din p hp q hq
      have hqi : q.i ∈ (Φ.map Prod.fst).map IT.i := List.mem_map.2 ⟨q, hqΦ, rfl⟩
      have hqh := hc.dh p hp q hq
      have hql : q.i ∈ done ++ E.map IT.i := hard_listed hj hqh (by have := hc.low _ hjlt _ hqh; omega)
      rcases List.mem_append.1 hql with h1 | h1
      · exact ((List.nodup_append.1 hc.nd).2.2 q.i h1 q.i hqi rfl).elim
      · obtain ⟨q', hq', e⟩ := List.mem_map.1 h1
        have := inj_on hin (hsub q' hq') hqΦ e
        exact this ▸ hq'
    obtain ⟨hloc, o, ho, hLR⟩ := hok.get p hp
    have hdd : p.1.d ∉ E.map IT.d := by
      intro hx
      obtain ⟨q, hq, e⟩ := List.mem_map.1 hx
      exact hnE (inj_on hc.dd (hsub q hq) hit e ▸ hq)
    obtain ⟨E', hpe⟩ := take_out (D := depsOf Φ p.2) (E := E) (hc.dn p hp) hdE
    have hfrE : depF g (extF fr ext) (depsOf Φ p.2) = fr := by
      have h1 : extF fr ext = fr := extF_self fun q hq => by
        rw [hfo q.1 fun hx => ?_]
        · exact hext q hq
        · obtain ⟨z, hz, e⟩ := List.mem_map.1 hx
          exact hc.ex q.1 (List.mem_map.2 ⟨q, hq, rfl⟩) (e ▸ List.mem_map.2 ⟨z, hsub z hz, rfl⟩)
      rw [h1]
      exact depF_self fun q hq => hfr q (hdE q hq)
    have h2 := hLR g fr (depA g E') _ rfl
    rw [hfrE] at h2
    have hwp : St w0 F (depA g (depsOf Φ p.2) ++ (L ++ depA g E')) w := by
      refine hw.perm ?_
      refine ((depA_perm hpe).append_right L).trans ?_
      rw [depA_append, List.append_assoc]
      exact (List.perm_append_comm).append_left _
    refine wpOp_of_LR ho ha hwp h2 fun a' f' w' hf' ⟨x, h3, h4⟩ => ?_
    have hgE : ∀ q ∈ E, q.val (gset g p.1.d x) = q.val g ∧ q.A (gset g p.1.d x) = q.A g := by
      intro q hq
      obtain ⟨pq, hpq, rfl⟩ := List.mem_map.1 (hsub q hq)
      refine (hok.get pq hpq).1 _ _ fun t ht => ?_
      exact gset_ne g x fun e => hdd (e ▸ hcl _ hq t ht)
    have hw' : St w0 F (depA (gset g p.1.d x) (p.1 :: E) ++ L) w' := by
      refine h4.perm ?_
      show (p.1.A (gset g p.1.d x) ++ (depA g (depsOf Φ p.2) ++ (L ++ depA g E'))).Perm (p.1.A (gset g p.1.d x) ++ depA (gset g p.1.d x) E ++ L)
      rw [depA_same fun q hq => (hgE q hq).2, List.append_assoc]
      refine List.Perm.append_left _ ?_
      refine List.Perm.symm ?_
      refine ((depA_perm hpe).append_right L).trans ?_
      rw [depA_append, List.append_assoc]
      exact (List.perm_append_comm).append_left _
    refine ⟨hS _ _ hw', ?_⟩
    have h5 := ih (p.1 :: E) (gset g p.1.d x) (by simp only [List.length_cons]; omega) (by
        rw [List.map_cons, List.nodup_cons]
        exact ⟨fun hx => hjn (List.mem_append_right _ hx), hnd⟩) (fun q hq => by
        rcases List.mem_cons.1 hq with rfl | hq
        · exact hit
        · exact hsub q hq) (fun q hq t ht => by
        rw [List.map_cons]
        rcases List.mem_cons.1 hq with rfl | hq
        · rcases hc.loc p hp t ht with rfl | ⟨z, hz, h6⟩
          · exact List.mem_cons_self
          · refine List.mem_cons_of_mem _ ?_
            rcases h6 with rfl | h6
            · exact List.mem_map.2 ⟨z, hdE z hz, rfl⟩
            · exact hcl z (hdE z hz) t h6
        · exact List.mem_cons_of_mem _ (hcl q hq t ht)) w' hw' f' (fun q hq => by
        rw [h3]
        rcases List.mem_cons.1 hq with rfl | hq
        · rw [upd_same]
        · have : q.d ≠ p.1.d := fun e => hdd (e ▸ List.mem_map.2 ⟨q, hq, rfl⟩)
          rw [upd_ne _ _ _ _ this, hfr q hq, (hgE q hq).1]) (fun t ht => by
        rw [List.map_cons, List.mem_cons, not_or] at ht
        rw [h3, upd_ne _ _ _ _ ht.1]
        exact hfo t ht.2) a' hf'
    have e1 : lst ops (done ++ (p.1 :: E).map IT.i) = (lst ops (done ++ E.map IT.i)).setIfInBounds p.1.i true := by
      rw [← lst_snoc]
      refine lst_perm ?_
      rw [List.append_assoc]
      exact (List.perm_append_comm (l₁ := [p.1.i])).append_left done
    have e2 : ops.length - (done.length + (p.1 :: E).length) = fuel := by simp only [List.length_cons]; omega
    rw [e1, e2] at h5
    exact h5
end
end Go.Hb

namespace Go.Proofs.Ytphcnaafhcfakaa
open Go.Hb
attribute [local irreducible] LR CW At Ev thn blk finK noG again CallsTo DW QL dnext TW DP
set_option maxRecDepth 100000

def pP : Plc := ⟨1, 3, 2, 6⟩
def zP : Plc := ⟨0, 0, 0, 0⟩
def zeroI : Itm := ⟨zeroK, zeroMsg, zP⟩
def placeI : Itm := ⟨kK 30, zeroMsg, pP⟩
def badI : Itm := { atI 31 with m := { (atI 31).m with groups := 0 } }
def markI : Itm := { atI 32 with m := ⟨2, 1, 0, 0, 0, 0, 0, false, 0, 0, 0, 0, []⟩ }
def lowI : Itm := { atI 33 with k := ⟨-1, 0, 0, 0⟩ }
def keyI : Itm := ⟨kK 40, zeroMsg, zP⟩
def doos (b1 b2 : Nat) : List DooA := [⟨⟨0, atI 5, []⟩, none, 0, none, 0⟩, ⟨⟨0, atI 5, []⟩, none, 0, none, 0⟩, ⟨⟨2, atI 9, []⟩, none, 0, none, 0⟩, ⟨⟨3, atI 6, []⟩, none, 0, none, 0⟩, ⟨⟨1, atI 8, []⟩, none, 0, none, 0⟩, ⟨⟨3, atI 6, []⟩, none, 0, none, 0⟩, ⟨⟨3, atI 7, []⟩, none, 0, none, 0⟩, ⟨⟨2, atI 7, []⟩, none, 0, none, 0⟩, ⟨⟨2, atI 9, []⟩, none, 0, none, 0⟩, ⟨⟨4, atI 20, []⟩, none, 0, none, 0⟩, ⟨⟨0, atI 19, []⟩, none, 0, none, 0⟩, ⟨⟨4, atI 2, [pP]⟩, none, 0, some ⟨b1, 0, none⟩, 1⟩, ⟨⟨4, atI 25, [pP, pP]⟩, none, 0, some ⟨b2, 0, none⟩, 2⟩, ⟨⟨0, placeI, []⟩, none, 0, none, 0⟩, ⟨⟨0, badI, []⟩, none, 0, none, 0⟩, ⟨⟨0, markI, []⟩, none, 0, none, 0⟩, ⟨⟨0, lowI, []⟩, none, 0, none, 0⟩, ⟨⟨0, keyI, []⟩, none, 0, none, 0⟩, ⟨⟨1, lowI, []⟩, none, 0, none, 0⟩, ⟨⟨1, atI 50, []⟩, none, 0, none, 0⟩, ⟨⟨2, lowI, []⟩, none, 0, none, 0⟩, ⟨⟨3, lowI, []⟩, none, 0, none, 0⟩, ⟨⟨3, atI 50, []⟩, none, 0, none, 0⟩, ⟨⟨3, atI 49, []⟩, none, 0, none, 0⟩, ⟨⟨5, zeroI, []⟩, none, 0, none, 0⟩, ⟨⟨3, atI 49, []⟩, none, 0, none, 0⟩, ⟨⟨4, lowI, []⟩, none, 0, none, 0⟩, ⟨⟨2, atI 50, []⟩, none, 0, none, 0⟩]
theorem doos_ok {b1 b2 : Nat} {w : World} (h1 : Rd w (some ⟨b1, 0, none⟩) (pcs [pP])) (h2 : Rd w (some ⟨b2, 0, none⟩) (pcs [pP, pP])) : ∀ x ∈ doos b1 b2, DooR w x := by
  intro x hx
  simp only [doos, List.mem_cons, List.not_mem_nil, or_false] at hx
  rcases hx with rfl | rfl | rfl | rfl | rfl | rfl | rfl | rfl | rfl | rfl | rfl | rfl | rfl | rfl | rfl | rfl | rfl | rfl | rfl | rfl | rfl | rfl | rfl | rfl | rfl | rfl | rfl | rfl
  all_goals (constructor <;> first | exact h1 | exact h2 | exact Rd.nil _ _ | (intro _; rfl) | decide | (simp [plcI, plcsI, MsgI, i64, Byt, atI, kK, pP, zP, zeroI, placeI, badI, markI, lowI, keyI, zeroMsg, zeroK]; done))
theorem upd_eta {f : Frm} {t : Nat} {v : Value} (h : f t = v) : f = upd f t v := by
  funext s
  by_cases e : s = t
  · subst e; rw [upd_same, h]
  · rw [upd_ne _ _ _ _ e]
theorem Rd.cell0 {w : World} {b : Nat} {xs : List Value} (h : Rd w (some ⟨b, 0, none⟩) xs) {j : Nat} {v : Value} (hj : xs[j]? = some v) : w.cell? ((⟨b, 0, none⟩ : Addr).add j) = some v := by
  have h1 := h.cell hj
  rw [addr_add]
  exact h1
noncomputable def k22_ops : List Oper := regOf (Try.f11.body.getD .skip) 22
noncomputable def k22_93 (b11 : Nat) (b12 : Nat) (b13 : Nat) (b14 : Nat) (b15 : Nat) : IT := ⟨0, 93, [], fun g => .agg ([.int .i64 5, .int .i64 0, .int .i64 0, .int .i64 0, .int .i64 1, .int .i64 1, .int .i64 1, .int .i64 0, .int .i64 0, .int .i64 1, .int .i64 1, .bool false, .int .i64 0, .int .i64 0, .int .i64 0, .int .i64 0, .slice none 0 0, .int .i64 0, .int .i64 0, .int .i64 0, .int .i64 0] : List Value).toArray, fun g => []⟩
theorem k22_93_ok (w0 : World) (b11 : Nat) (b12 : Nat) (b13 : Nat) (b14 : Nat) (b15 : Nat) : ILoc (k22_93 b11 b12 b13 b14 b15) ∧ IOk Try.prog 173 k22_ops w0 NoF [.own b15 (.cells (lowI.cells none 0).toArray 72 (0, 0)), .own b14 (.cells (markI.cells none 0).toArray 72 (0, 0)), .own b13 (.cells (badI.cells none 0).toArray 72 (0, 0)), .own b12 (.cells (placeI.cells none 0).toArray 72 (0, 0)), .own b11 (.cells pP.cells.toArray 70 (0, 0))] [(11, .pointer (some ⟨b11, 0, none⟩)), (12, .pointer (some ⟨b12, 0, none⟩)), (13, .pointer (some ⟨b13, 0, none⟩)), (14, .pointer (some ⟨b14, 0, none⟩)), (15, .pointer (some ⟨b15, 0, none⟩))] (k22_93 b11 b12 b13 b14 b15) [] := by
  refine ⟨fun g g' hl => ⟨?_, ?_⟩, _, rfl, fun g h R LA e => ?_⟩
  · simp only [k22_93]
  · simp only [k22_93]
  subst e
  dsimp only [depF, depA, extF, List.cons_append, List.nil_append, List.append_eq]
  repeat'(first|refine kv' ?_|apply jJ|refine jE' ?_|refine jp' ?_|(apply jc;kernel_rfl)|refine kg' ?_|refine kG' ?_|refine kB' fun _=>?_|refine kA' fun _=>?_|refine kK' fun _=>?_|refine kU' ?_|(apply kq; (· exact rfl); (· intro w1 h1; exact CallsTo.q (g33 5 w1) h1))|((first|refine kR' ?_ ?_|refine kQ' ?_ ?_);all_goals(intro hc;try simp only[hcs]at hc;try(exfalso;first|contradiction|omega))))
  exact At.item ⟨none, 0, 0, 0⟩ rfl (fun w h => h)
noncomputable def k22_94 (b11 : Nat) (b12 : Nat) (b13 : Nat) (b14 : Nat) (b15 : Nat) : IT := ⟨1, 94, [], fun g => .agg ([.int .i64 0, .int .i64 5, .int .i64 0, .int .i64 0, .int .i64 0, .int .i64 1, .int .i64 1, .int .i64 1, .int .i64 0, .int .i64 0, .int .i64 1, .int .i64 1, .bool false, .int .i64 0, .int .i64 0, .int .i64 0, .int .i64 0, .slice none 0 0, .int .i64 0, .int .i64 0, .int .i64 0, .int .i64 0, .slice none 0 0] : List Value).toArray, fun g => []⟩
theorem k22_94_ok (w0 : World) (b11 : Nat) (b12 : Nat) (b13 : Nat) (b14 : Nat) (b15 : Nat) : ILoc (k22_94 b11 b12 b13 b14 b15) ∧ IOk Try.prog 173 k22_ops w0 NoF [.own b15 (.cells (lowI.cells none 0).toArray 72 (0, 0)), .own b14 (.cells (markI.cells none 0).toArray 72 (0, 0)), .own b13 (.cells (badI.cells none 0).toArray 72 (0, 0)), .own b12 (.cells (placeI.cells none 0).toArray 72 (0, 0)), .own b11 (.cells pP.cells.toArray 70 (0, 0))] [(11, .pointer (some ⟨b11, 0, none⟩)), (12, .pointer (some ⟨b12, 0, none⟩)), (13, .pointer (some ⟨b13, 0, none⟩)), (14, .pointer (some ⟨b14, 0, none⟩)), (15, .pointer (some ⟨b15, 0, none⟩))] (k22_94 b11 b12 b13 b14 b15) [k22_93 b11 b12 b13 b14 b15] := by
  refine ⟨fun g g' hl => ⟨?_, ?_⟩, _, rfl, fun g h R LA e => ?_⟩
  · simp only [k22_94]
  · simp only [k22_94]
  subst e
  dsimp only [depF, depA, extF, k22_93, List.cons_append, List.nil_append, List.append_eq]
  repeat'(first|refine kv' ?_|apply jJ|refine jE' ?_|refine jp' ?_|(apply jc;kernel_rfl)|refine kg' ?_|refine kG' ?_|refine kB' fun _=>?_|refine kA' fun _=>?_|refine kK' fun _=>?_|refine kU' ?_|((first|refine kR' ?_ ?_|refine kQ' ?_ ?_);all_goals(intro hc;try simp only[hcs]at hc;try(exfalso;first|contradiction|omega))))
  exact At.item ⟨none, 0, 0, 0⟩ rfl (fun w h => h)
noncomputable def k22_95 (b11 : Nat) (b12 : Nat) (b13 : Nat) (b14 : Nat) (b15 : Nat) : IT := ⟨2, 95, [], fun g => .agg ([.int .i64 5, .int .i64 0, .int .i64 0, .int .i64 0, .int .i64 1, .int .i64 1, .int .i64 1, .int .i64 0, .int .i64 0, .int .i64 1, .int .i64 1, .bool false, .int .i64 0, .int .i64 0, .int .i64 0, .int .i64 0, .slice none 0 0, .int .i64 0, .int .i64 0, .int .i64 0, .int .i64 0] : List Value).toArray, fun g => []⟩
theorem k22_95_ok (w0 : World) (b11 : Nat) (b12 : Nat) (b13 : Nat) (b14 : Nat) (b15 : Nat) : ILoc (k22_95 b11 b12 b13 b14 b15) ∧ IOk Try.prog 173 k22_ops w0 NoF [.own b15 (.cells (lowI.cells none 0).toArray 72 (0, 0)), .own b14 (.cells (markI.cells none 0).toArray 72 (0, 0)), .own b13 (.cells (badI.cells none 0).toArray 72 (0, 0)), .own b12 (.cells (placeI.cells none 0).toArray 72 (0, 0)), .own b11 (.cells pP.cells.toArray 70 (0, 0))] [(11, .pointer (some ⟨b11, 0, none⟩)), (12, .pointer (some ⟨b12, 0, none⟩)), (13, .pointer (some ⟨b13, 0, none⟩)), (14, .pointer (some ⟨b14, 0, none⟩)), (15, .pointer (some ⟨b15, 0, none⟩))] (k22_95 b11 b12 b13 b14 b15) [] := by
  refine ⟨fun g g' hl => ⟨?_, ?_⟩, _, rfl, fun g h R LA e => ?_⟩
  · simp only [k22_95]
  · simp only [k22_95]
  subst e
  dsimp only [depF, depA, extF, List.cons_append, List.nil_append, List.append_eq]
  repeat'(first|refine kv' ?_|apply jJ|refine jE' ?_|refine jp' ?_|(apply jc;kernel_rfl)|refine kg' ?_|refine kG' ?_|refine kB' fun _=>?_|refine kA' fun _=>?_|refine kK' fun _=>?_|refine kU' ?_|(apply kq; (· exact rfl); (· intro w1 h1; exact CallsTo.q (g33 5 w1) h1))|((first|refine kR' ?_ ?_|refine kQ' ?_ ?_);all_goals(intro hc;try simp only[hcs]at hc;try(exfalso;first|contradiction|omega))))
  exact At.item ⟨none, 0, 0, 0⟩ rfl (fun w h => h)
noncomputable def k22_96 (b11 : Nat) (b12 : Nat) (b13 : Nat) (b14 : Nat) (b15 : Nat) : IT := ⟨3, 96, [], fun g => .agg ([.int .i64 0, .int .i64 5, .int .i64 0, .int .i64 0, .int .i64 0, .int .i64 1, .int .i64 1, .int .i64 1, .int .i64 0, .int .i64 0, .int .i64 1, .int .i64 1, .bool false, .int .i64 0, .int .i64 0, .int .i64 0, .int .i64 0, .slice none 0 0, .int .i64 0, .int .i64 0, .int .i64 0, .int .i64 0, .slice none 0 0] : List Value).toArray, fun g => []⟩
theorem k22_96_ok (w0 : World) (b11 : Nat) (b12 : Nat) (b13 : Nat) (b14 : Nat) (b15 : Nat) : ILoc (k22_96 b11 b12 b13 b14 b15) ∧ IOk Try.prog 173 k22_ops w0 NoF [.own b15 (.cells (lowI.cells none 0).toArray 72 (0, 0)), .own b14 (.cells (markI.cells none 0).toArray 72 (0, 0)), .own b13 (.cells (badI.cells none 0).toArray 72 (0, 0)), .own b12 (.cells (placeI.cells none 0).toArray 72 (0, 0)), .own b11 (.cells pP.cells.toArray 70 (0, 0))] [(11, .pointer (some ⟨b11, 0, none⟩)), (12, .pointer (some ⟨b12, 0, none⟩)), (13, .pointer (some ⟨b13, 0, none⟩)), (14, .pointer (some ⟨b14, 0, none⟩)), (15, .pointer (some ⟨b15, 0, none⟩))] (k22_96 b11 b12 b13 b14 b15) [k22_95 b11 b12 b13 b14 b15] := by
  refine ⟨fun g g' hl => ⟨?_, ?_⟩, _, rfl, fun g h R LA e => ?_⟩
  · simp only [k22_96]
  · simp only [k22_96]
  subst e
  dsimp only [depF, depA, extF, k22_95, List.cons_append, List.nil_append, List.append_eq]
  repeat'(first|refine kv' ?_|apply jJ|refine jE' ?_|refine jp' ?_|(apply jc;kernel_rfl)|refine kg' ?_|refine kG' ?_|refine kB' fun _=>?_|refine kA' fun _=>?_|refine kK' fun _=>?_|refine kU' ?_|((first|refine kR' ?_ ?_|refine kQ' ?_ ?_);all_goals(intro hc;try simp only[hcs]at hc;try(exfalso;first|contradiction|omega))))
  exact At.item ⟨none, 0, 0, 0⟩ rfl (fun w h => h)
noncomputable def k22_97 (b11 : Nat) (b12 : Nat) (b13 : Nat) (b14 : Nat) (b15 : Nat) : IT := ⟨4, 97, [], fun g => .agg ([.int .i64 9, .int .i64 0, .int .i64 0, .int .i64 0, .int .i64 1, .int .i64 1, .int .i64 1, .int .i64 0, .int .i64 0, .int .i64 1, .int .i64 1, .bool false, .int .i64 0, .int .i64 0, .int .i64 0, .int .i64 0, .slice none 0 0, .int .i64 0, .int .i64 0, .int .i64 0, .int .i64 0] : List Value).toArray, fun g => []⟩
theorem k22_97_ok (w0 : World) (b11 : Nat) (b12 : Nat) (b13 : Nat) (b14 : Nat) (b15 : Nat) : ILoc (k22_97 b11 b12 b13 b14 b15) ∧ IOk Try.prog 173 k22_ops w0 NoF [.own b15 (.cells (lowI.cells none 0).toArray 72 (0, 0)), .own b14 (.cells (markI.cells none 0).toArray 72 (0, 0)), .own b13 (.cells (badI.cells none 0).toArray 72 (0, 0)), .own b12 (.cells (placeI.cells none 0).toArray 72 (0, 0)), .own b11 (.cells pP.cells.toArray 70 (0, 0))] [(11, .pointer (some ⟨b11, 0, none⟩)), (12, .pointer (some ⟨b12, 0, none⟩)), (13, .pointer (some ⟨b13, 0, none⟩)), (14, .pointer (some ⟨b14, 0, none⟩)), (15, .pointer (some ⟨b15, 0, none⟩))] (k22_97 b11 b12 b13 b14 b15) [] := by
  refine ⟨fun g g' hl => ⟨?_, ?_⟩, _, rfl, fun g h R LA e => ?_⟩
  · simp only [k22_97]
  · simp only [k22_97]
  subst e
  dsimp only [depF, depA, extF, List.cons_append, List.nil_append, List.append_eq]
  repeat'(first|refine kv' ?_|apply jJ|refine jE' ?_|refine jp' ?_|(apply jc;kernel_rfl)|refine kg' ?_|refine kG' ?_|refine kB' fun _=>?_|refine kA' fun _=>?_|refine kK' fun _=>?_|refine kU' ?_|(apply kq; (· exact rfl); (· intro w1 h1; exact CallsTo.q (g33 9 w1) h1))|((first|refine kR' ?_ ?_|refine kQ' ?_ ?_);all_goals(intro hc;try simp only[hcs]at hc;try(exfalso;first|contradiction|omega))))
  exact At.item ⟨none, 0, 0, 0⟩ rfl (fun w h => h)
noncomputable def k22_98 (b11 : Nat) (b12 : Nat) (b13 : Nat) (b14 : Nat) (b15 : Nat) : IT := ⟨5, 98, [], fun g => .agg ([.int .i64 2, .int .i64 9, .int .i64 0, .int .i64 0, .int .i64 0, .int .i64 1, .int .i64 1, .int .i64 1, .int .i64 0, .int .i64 0, .int .i64 1, .int .i64 1, .bool false, .int .i64 0, .int .i64 0, .int .i64 0, .int .i64 0, .slice none 0 0, .int .i64 0, .int .i64 0, .int .i64 0, .int .i64 0, .slice none 0 0] : List Value).toArray, fun g => []⟩
theorem k22_98_ok (w0 : World) (b11 : Nat) (b12 : Nat) (b13 : Nat) (b14 : Nat) (b15 : Nat) : ILoc (k22_98 b11 b12 b13 b14 b15) ∧ IOk Try.prog 173 k22_ops w0 NoF [.own b15 (.cells (lowI.cells none 0).toArray 72 (0, 0)), .own b14 (.cells (markI.cells none 0).toArray 72 (0, 0)), .own b13 (.cells (badI.cells none 0).toArray 72 (0, 0)), .own b12 (.cells (placeI.cells none 0).toArray 72 (0, 0)), .own b11 (.cells pP.cells.toArray 70 (0, 0))] [(11, .pointer (some ⟨b11, 0, none⟩)), (12, .pointer (some ⟨b12, 0, none⟩)), (13, .pointer (some ⟨b13, 0, none⟩)), (14, .pointer (some ⟨b14, 0, none⟩)), (15, .pointer (some ⟨b15, 0, none⟩))] (k22_98 b11 b12 b13 b14 b15) [k22_97 b11 b12 b13 b14 b15] := by
  refine ⟨fun g g' hl => ⟨?_, ?_⟩, _, rfl, fun g h R LA e => ?_⟩
  · simp only [k22_98]
  · simp only [k22_98]
  subst e
  dsimp only [depF, depA, extF, k22_97, List.cons_append, List.nil_append, List.append_eq]
  repeat'(first|refine kv' ?_|apply jJ|refine jE' ?_|refine jp' ?_|(apply jc;kernel_rfl)|refine kg' ?_|refine kG' ?_|refine kB' fun _=>?_|refine kA' fun _=>?_|refine kK' fun _=>?_|refine kU' ?_|((first|refine kR' ?_ ?_|refine kQ' ?_ ?_);all_goals(intro hc;try simp only[hcs]at hc;try(exfalso;first|contradiction|omega))))
  exact At.item ⟨none, 0, 0, 0⟩ rfl (fun w h => h)
noncomputable def k22_99 (b11 : Nat) (b12 : Nat) (b13 : Nat) (b14 : Nat) (b15 : Nat) : IT := ⟨6, 99, [], fun g => .agg ([.int .i64 6, .int .i64 0, .int .i64 0, .int .i64 0, .int .i64 1, .int .i64 1, .int .i64 1, .int .i64 0, .int .i64 0, .int .i64 1, .int .i64 1, .bool false, .int .i64 0, .int .i64 0, .int .i64 0, .int .i64 0, .slice none 0 0, .int .i64 0, .int .i64 0, .int .i64 0, .int .i64 0] : List Value).toArray, fun g => []⟩
theorem k22_99_ok (w0 : World) (b11 : Nat) (b12 : Nat) (b13 : Nat) (b14 : Nat) (b15 : Nat) : ILoc (k22_99 b11 b12 b13 b14 b15) ∧ IOk Try.prog 173 k22_ops w0 NoF [.own b15 (.cells (lowI.cells none 0).toArray 72 (0, 0)), .own b14 (.cells (markI.cells none 0).toArray 72 (0, 0)), .own b13 (.cells (badI.cells none 0).toArray 72 (0, 0)), .own b12 (.cells (placeI.cells none 0).toArray 72 (0, 0)), .own b11 (.cells pP.cells.toArray 70 (0, 0))] [(11, .pointer (some ⟨b11, 0, none⟩)), (12, .pointer (some ⟨b12, 0, none⟩)), (13, .pointer (some ⟨b13, 0, none⟩)), (14, .pointer (some ⟨b14, 0, none⟩)), (15, .pointer (some ⟨b15, 0, none⟩))] (k22_99 b11 b12 b13 b14 b15) [] := by
  refine ⟨fun g g' hl => ⟨?_, ?_⟩, _, rfl, fun g h R LA e => ?_⟩
  · simp only [k22_99]
  · simp only [k22_99]
  subst e
  dsimp only [depF, depA, extF, List.cons_append, List.nil_append, List.append_eq]
  repeat'(first|refine kv' ?_|apply jJ|refine jE' ?_|refine jp' ?_|(apply jc;kernel_rfl)|refine kg' ?_|refine kG' ?_|refine kB' fun _=>?_|refine kA' fun _=>?_|refine kK' fun _=>?_|refine kU' ?_|(apply kq; (· exact rfl); (· intro w1 h1; exact CallsTo.q (g33 6 w1) h1))|((first|refine kR' ?_ ?_|refine kQ' ?_ ?_);all_goals(intro hc;try simp only[hcs]at hc;try(exfalso;first|contradiction|omega))))
  exact At.item ⟨none, 0, 0, 0⟩ rfl (fun w h => h)
noncomputable def k22_100 (b11 : Nat) (b12 : Nat) (b13 : Nat) (b14 : Nat) (b15 : Nat) : IT := ⟨7, 100, [], fun g => .agg ([.int .i64 3, .int .i64 6, .int .i64 0, .int .i64 0, .int .i64 0, .int .i64 1, .int .i64 1, .int .i64 1, .int .i64 0, .int .i64 0, .int .i64 1, .int .i64 1, .bool false, .int .i64 0, .int .i64 0, .int .i64 0, .int .i64 0, .slice none 0 0, .int .i64 0, .int .i64 0, .int .i64 0, .int .i64 0, .slice none 0 0] : List Value).toArray, fun g => []⟩
theorem k22_100_ok (w0 : World) (b11 : Nat) (b12 : Nat) (b13 : Nat) (b14 : Nat) (b15 : Nat) : ILoc (k22_100 b11 b12 b13 b14 b15) ∧ IOk Try.prog 173 k22_ops w0 NoF [.own b15 (.cells (lowI.cells none 0).toArray 72 (0, 0)), .own b14 (.cells (markI.cells none 0).toArray 72 (0, 0)), .own b13 (.cells (badI.cells none 0).toArray 72 (0, 0)), .own b12 (.cells (placeI.cells none 0).toArray 72 (0, 0)), .own b11 (.cells pP.cells.toArray 70 (0, 0))] [(11, .pointer (some ⟨b11, 0, none⟩)), (12, .pointer (some ⟨b12, 0, none⟩)), (13, .pointer (some ⟨b13, 0, none⟩)), (14, .pointer (some ⟨b14, 0, none⟩)), (15, .pointer (some ⟨b15, 0, none⟩))] (k22_100 b11 b12 b13 b14 b15) [k22_99 b11 b12 b13 b14 b15] := by
  refine ⟨fun g g' hl => ⟨?_, ?_⟩, _, rfl, fun g h R LA e => ?_⟩
  · simp only [k22_100]
  · simp only [k22_100]
  subst e
  dsimp only [depF, depA, extF, k22_99, List.cons_append, List.nil_append, List.append_eq]
  repeat'(first|refine kv' ?_|apply jJ|refine jE' ?_|refine jp' ?_|(apply jc;kernel_rfl)|refine kg' ?_|refine kG' ?_|refine kB' fun _=>?_|refine kA' fun _=>?_|refine kK' fun _=>?_|refine kU' ?_|((first|refine kR' ?_ ?_|refine kQ' ?_ ?_);all_goals(intro hc;try simp only[hcs]at hc;try(exfalso;first|contradiction|omega))))
  exact At.item ⟨none, 0, 0, 0⟩ rfl (fun w h => h)
noncomputable def k22_101 (b11 : Nat) (b12 : Nat) (b13 : Nat) (b14 : Nat) (b15 : Nat) : IT := ⟨8, 101, [], fun g => .agg ([.int .i64 8, .int .i64 0, .int .i64 0, .int .i64 0, .int .i64 1, .int .i64 1, .int .i64 1, .int .i64 0, .int .i64 0, .int .i64 1, .int .i64 1, .bool false, .int .i64 0, .int .i64 0, .int .i64 0, .int .i64 0, .slice none 0 0, .int .i64 0, .int .i64 0, .int .i64 0, .int .i64 0] : List Value).toArray, fun g => []⟩
theorem k22_101_ok (w0 : World) (b11 : Nat) (b12 : Nat) (b13 : Nat) (b14 : Nat) (b15 : Nat) : ILoc (k22_101 b11 b12 b13 b14 b15) ∧ IOk Try.prog 173 k22_ops w0 NoF [.own b15 (.cells (lowI.cells none 0).toArray 72 (0, 0)), .own b14 (.cells (markI.cells none 0).toArray 72 (0, 0)), .own b13 (.cells (badI.cells none 0).toArray 72 (0, 0)), .own b12 (.cells (placeI.cells none 0).toArray 72 (0, 0)), .own b11 (.cells pP.cells.toArray 70 (0, 0))] [(11, .pointer (some ⟨b11, 0, none⟩)), (12, .pointer (some ⟨b12, 0, none⟩)), (13, .pointer (some ⟨b13, 0, none⟩)), (14, .pointer (some ⟨b14, 0, none⟩)), (15, .pointer (some ⟨b15, 0, none⟩))] (k22_101 b11 b12 b13 b14 b15) [] := by
  refine ⟨fun g g' hl => ⟨?_, ?_⟩, _, rfl, fun g h R LA e => ?_⟩
  · simp only [k22_101]
  · simp only [k22_101]
  subst e
  dsimp only [depF, depA, extF, List.cons_append, List.nil_append, List.append_eq]
  repeat'(first|refine kv' ?_|apply jJ|refine jE' ?_|refine jp' ?_|(apply jc;kernel_rfl)|refine kg' ?_|refine kG' ?_|refine kB' fun _=>?_|refine kA' fun _=>?_|refine kK' fun _=>?_|refine kU' ?_|(apply kq; (· exact rfl); (· intro w1 h1; exact CallsTo.q (g33 8 w1) h1))|((first|refine kR' ?_ ?_|refine kQ' ?_ ?_);all_goals(intro hc;try simp only[hcs]at hc;try(exfalso;first|contradiction|omega))))
  exact At.item ⟨none, 0, 0, 0⟩ rfl (fun w h => h)
noncomputable def k22_102 (b11 : Nat) (b12 : Nat) (b13 : Nat) (b14 : Nat) (b15 : Nat) : IT := ⟨9, 102, [], fun g => .agg ([.int .i64 1, .int .i64 8, .int .i64 0, .int .i64 0, .int .i64 0, .int .i64 1, .int .i64 1, .int .i64 1, .int .i64 0, .int .i64 0, .int .i64 1, .int .i64 1, .bool false, .int .i64 0, .int .i64 0, .int .i64 0, .int .i64 0, .slice none 0 0, .int .i64 0, .int .i64 0, .int .i64 0, .int .i64 0, .slice none 0 0] : List Value).toArray, fun g => []⟩
theorem k22_102_ok (w0 : World) (b11 : Nat) (b12 : Nat) (b13 : Nat) (b14 : Nat) (b15 : Nat) : ILoc (k22_102 b11 b12 b13 b14 b15) ∧ IOk Try.prog 173 k22_ops w0 NoF [.own b15 (.cells (lowI.cells none 0).toArray 72 (0, 0)), .own b14 (.cells (markI.cells none 0).toArray 72 (0, 0)), .own b13 (.cells (badI.cells none 0).toArray 72 (0, 0)), .own b12 (.cells (placeI.cells none 0).toArray 72 (0, 0)), .own b11 (.cells pP.cells.toArray 70 (0, 0))] [(11, .pointer (some ⟨b11, 0, none⟩)), (12, .pointer (some ⟨b12, 0, none⟩)), (13, .pointer (some ⟨b13, 0, none⟩)), (14, .pointer (some ⟨b14, 0, none⟩)), (15, .pointer (some ⟨b15, 0, none⟩))] (k22_102 b11 b12 b13 b14 b15) [k22_101 b11 b12 b13 b14 b15] := by
  refine ⟨fun g g' hl => ⟨?_, ?_⟩, _, rfl, fun g h R LA e => ?_⟩
  · simp only [k22_102]
  · simp only [k22_102]
  subst e
  dsimp only [depF, depA, extF, k22_101, List.cons_append, List.nil_append, List.append_eq]
  repeat'(first|refine kv' ?_|apply jJ|refine jE' ?_|refine jp' ?_|(apply jc;kernel_rfl)|refine kg' ?_|refine kG' ?_|refine kB' fun _=>?_|refine kA' fun _=>?_|refine kK' fun _=>?_|refine kU' ?_|((first|refine kR' ?_ ?_|refine kQ' ?_ ?_);all_goals(intro hc;try simp only[hcs]at hc;try(exfalso;first|contradiction|omega))))
  exact At.item ⟨none, 0, 0, 0⟩ rfl (fun w h => h)
noncomputable def k22_103 (b11 : Nat) (b12 : Nat) (b13 : Nat) (b14 : Nat) (b15 : Nat) : IT := ⟨10, 103, [], fun g => .agg ([.int .i64 6, .int .i64 0, .int .i64 0, .int .i64 0, .int .i64 1, .int .i64 1, .int .i64 1, .int .i64 0, .int .i64 0, .int .i64 1, .int .i64 1, .bool false, .int .i64 0, .int .i64 0, .int .i64 0, .int .i64 0, .slice none 0 0, .int .i64 0, .int .i64 0, .int .i64 0, .int .i64 0] : List Value).toArray, fun g => []⟩
theorem k22_103_ok (w0 : World) (b11 : Nat) (b12 : Nat) (b13 : Nat) (b14 : Nat) (b15 : Nat) : ILoc (k22_103 b11 b12 b13 b14 b15) ∧ IOk Try.prog 173 k22_ops w0 NoF [.own b15 (.cells (lowI.cells none 0).toArray 72 (0, 0)), .own b14 (.cells (markI.cells none 0).toArray 72 (0, 0)), .own b13 (.cells (badI.cells none 0).toArray 72 (0, 0)), .own b12 (.cells (placeI.cells none 0).toArray 72 (0, 0)), .own b11 (.cells pP.cells.toArray 70 (0, 0))] [(11, .pointer (some ⟨b11, 0, none⟩)), (12, .pointer (some ⟨b12, 0, none⟩)), (13, .pointer (some ⟨b13, 0, none⟩)), (14, .pointer (some ⟨b14, 0, none⟩)), (15, .pointer (some ⟨b15, 0, none⟩))] (k22_103 b11 b12 b13 b14 b15) [] := by
  refine ⟨fun g g' hl => ⟨?_, ?_⟩, _, rfl, fun g h R LA e => ?_⟩
  · simp only [k22_103]
  · simp only [k22_103]
  subst e
  dsimp only [depF, depA, extF, List.cons_append, List.nil_append, List.append_eq]
  repeat'(first|refine kv' ?_|apply jJ|refine jE' ?_|refine jp' ?_|(apply jc;kernel_rfl)|refine kg' ?_|refine kG' ?_|refine kB' fun _=>?_|refine kA' fun _=>?_|refine kK' fun _=>?_|refine kU' ?_|(apply kq; (· exact rfl); (· intro w1 h1; exact CallsTo.q (g33 6 w1) h1))|((first|refine kR' ?_ ?_|refine kQ' ?_ ?_);all_goals(intro hc;try simp only[hcs]at hc;try(exfalso;first|contradiction|omega))))
  exact At.item ⟨none, 0, 0, 0⟩ rfl (fun w h => h)
noncomputable def k22_104 (b11 : Nat) (b12 : Nat) (b13 : Nat) (b14 : Nat) (b15 : Nat) : IT := ⟨11, 104, [], fun g => .agg ([.int .i64 3, .int .i64 6, .int .i64 0, .int .i64 0, .int .i64 0, .int .i64 1, .int .i64 1, .int .i64 1, .int .i64 0, .int .i64 0, .int .i64 1, .int .i64 1, .bool false, .int .i64 0, .int .i64 0, .int .i64 0, .int .i64 0, .slice none 0 0, .int .i64 0, .int .i64 0, .int .i64 0, .int .i64 0, .slice none 0 0] : List Value).toArray, fun g => []⟩
theorem k22_104_ok (w0 : World) (b11 : Nat) (b12 : Nat) (b13 : Nat) (b14 : Nat) (b15 : Nat) : ILoc (k22_104 b11 b12 b13 b14 b15) ∧ IOk Try.prog 173 k22_ops w0 NoF [.own b15 (.cells (lowI.cells none 0).toArray 72 (0, 0)), .own b14 (.cells (markI.cells none 0).toArray 72 (0, 0)), .own b13 (.cells (badI.cells none 0).toArray 72 (0, 0)), .own b12 (.cells (placeI.cells none 0).toArray 72 (0, 0)), .own b11 (.cells pP.cells.toArray 70 (0, 0))] [(11, .pointer (some ⟨b11, 0, none⟩)), (12, .pointer (some ⟨b12, 0, none⟩)), (13, .pointer (some ⟨b13, 0, none⟩)), (14, .pointer (some ⟨b14, 0, none⟩)), (15, .pointer (some ⟨b15, 0, none⟩))] (k22_104 b11 b12 b13 b14 b15) [k22_103 b11 b12 b13 b14 b15] := by
  refine ⟨fun g g' hl => ⟨?_, ?_⟩, _, rfl, fun g h R LA e => ?_⟩
  · simp only [k22_104]
  · simp only [k22_104]
  subst e
  dsimp only [depF, depA, extF, k22_103, List.cons_append, List.nil_append, List.append_eq]
  repeat'(first|refine kv' ?_|apply jJ|refine jE' ?_|refine jp' ?_|(apply jc;kernel_rfl)|refine kg' ?_|refine kG' ?_|refine kB' fun _=>?_|refine kA' fun _=>?_|refine kK' fun _=>?_|refine kU' ?_|((first|refine kR' ?_ ?_|refine kQ' ?_ ?_);all_goals(intro hc;try simp only[hcs]at hc;try(exfalso;first|contradiction|omega))))
  exact At.item ⟨none, 0, 0, 0⟩ rfl (fun w h => h)
noncomputable def k22_105 (b11 : Nat) (b12 : Nat) (b13 : Nat) (b14 : Nat) (b15 : Nat) : IT := ⟨12, 105, [], fun g => .agg ([.int .i64 7, .int .i64 0, .int .i64 0, .int .i64 0, .int .i64 1, .int .i64 1, .int .i64 1, .int .i64 0, .int .i64 0, .int .i64 1, .int .i64 1, .bool false, .int .i64 0, .int .i64 0, .int .i64 0, .int .i64 0, .slice none 0 0, .int .i64 0, .int .i64 0, .int .i64 0, .int .i64 0] : List Value).toArray, fun g => []⟩
theorem k22_105_ok (w0 : World) (b11 : Nat) (b12 : Nat) (b13 : Nat) (b14 : Nat) (b15 : Nat) : ILoc (k22_105 b11 b12 b13 b14 b15) ∧ IOk Try.prog 173 k22_ops w0 NoF [.own b15 (.cells (lowI.cells none 0).toArray 72 (0, 0)), .own b14 (.cells (markI.cells none 0).toArray 72 (0, 0)), .own b13 (.cells (badI.cells none 0).toArray 72 (0, 0)), .own b12 (.cells (placeI.cells none 0).toArray 72 (0, 0)), .own b11 (.cells pP.cells.toArray 70 (0, 0))] [(11, .pointer (some ⟨b11, 0, none⟩)), (12, .pointer (some ⟨b12, 0, none⟩)), (13, .pointer (some ⟨b13, 0, none⟩)), (14, .pointer (some ⟨b14, 0, none⟩)), (15, .pointer (some ⟨b15, 0, none⟩))] (k22_105 b11 b12 b13 b14 b15) [] := by
  refine ⟨fun g g' hl => ⟨?_, ?_⟩, _, rfl, fun g h R LA e => ?_⟩
  · simp only [k22_105]
  · simp only [k22_105]
  subst e
  dsimp only [depF, depA, extF, List.cons_append, List.nil_append, List.append_eq]
  repeat'(first|refine kv' ?_|apply jJ|refine jE' ?_|refine jp' ?_|(apply jc;kernel_rfl)|refine kg' ?_|refine kG' ?_|refine kB' fun _=>?_|refine kA' fun _=>?_|refine kK' fun _=>?_|refine kU' ?_|(apply kq; (· exact rfl); (· intro w1 h1; exact CallsTo.q (g33 7 w1) h1))|((first|refine kR' ?_ ?_|refine kQ' ?_ ?_);all_goals(intro hc;try simp only[hcs]at hc;try(exfalso;first|contradiction|omega))))
  exact At.item ⟨none, 0, 0, 0⟩ rfl (fun w h => h)
noncomputable def k22_106 (b11 : Nat) (b12 : Nat) (b13 : Nat) (b14 : Nat) (b15 : Nat) : IT := ⟨13, 106, [], fun g => .agg ([.int .i64 3, .int .i64 7, .int .i64 0, .int .i64 0, .int .i64 0, .int .i64 1, .int .i64 1, .int .i64 1, .int .i64 0, .int .i64 0, .int .i64 1, .int .i64 1, .bool false, .int .i64 0, .int .i64 0, .int .i64 0, .int .i64 0, .slice none 0 0, .int .i64 0, .int .i64 0, .int .i64 0, .int .i64 0, .slice none 0 0] : List Value).toArray, fun g => []⟩
theorem k22_106_ok (w0 : World) (b11 : Nat) (b12 : Nat) (b13 : Nat) (b14 : Nat) (b15 : Nat) : ILoc (k22_106 b11 b12 b13 b14 b15) ∧ IOk Try.prog 173 k22_ops w0 NoF [.own b15 (.cells (lowI.cells none 0).toArray 72 (0, 0)), .own b14 (.cells (markI.cells none 0).toArray 72 (0, 0)), .own b13 (.cells (badI.cells none 0).toArray 72 (0, 0)), .own b12 (.cells (placeI.cells none 0).toArray 72 (0, 0)), .own b11 (.cells pP.cells.toArray 70 (0, 0))] [(11, .pointer (some ⟨b11, 0, none⟩)), (12, .pointer (some ⟨b12, 0, none⟩)), (13, .pointer (some ⟨b13, 0, none⟩)), (14, .pointer (some ⟨b14, 0, none⟩)), (15, .pointer (some ⟨b15, 0, none⟩))] (k22_106 b11 b12 b13 b14 b15) [k22_105 b11 b12 b13 b14 b15] := by
  refine ⟨fun g g' hl => ⟨?_, ?_⟩, _, rfl, fun g h R LA e => ?_⟩
  · simp only [k22_106]
  · simp only [k22_106]
  subst e
  dsimp only [depF, depA, extF, k22_105, List.cons_append, List.nil_append, List.append_eq]
  repeat'(first|refine kv' ?_|apply jJ|refine jE' ?_|refine jp' ?_|(apply jc;kernel_rfl)|refine kg' ?_|refine kG' ?_|refine kB' fun _=>?_|refine kA' fun _=>?_|refine kK' fun _=>?_|refine kU' ?_|((first|refine kR' ?_ ?_|refine kQ' ?_ ?_);all_goals(intro hc;try simp only[hcs]at hc;try(exfalso;first|contradiction|omega))))
  exact At.item ⟨none, 0, 0, 0⟩ rfl (fun w h => h)
noncomputable def k22_107 (b11 : Nat) (b12 : Nat) (b13 : Nat) (b14 : Nat) (b15 : Nat) : IT := ⟨14, 107, [], fun g => .agg ([.int .i64 7, .int .i64 0, .int .i64 0, .int .i64 0, .int .i64 1, .int .i64 1, .int .i64 1, .int .i64 0, .int .i64 0, .int .i64 1, .int .i64 1, .bool false, .int .i64 0, .int .i64 0, .int .i64 0, .int .i64 0, .slice none 0 0, .int .i64 0, .int .i64 0, .int .i64 0, .int .i64 0] : List Value).toArray, fun g => []⟩
theorem k22_107_ok (w0 : World) (b11 : Nat) (b12 : Nat) (b13 : Nat) (b14 : Nat) (b15 : Nat) : ILoc (k22_107 b11 b12 b13 b14 b15) ∧ IOk Try.prog 173 k22_ops w0 NoF [.own b15 (.cells (lowI.cells none 0).toArray 72 (0, 0)), .own b14 (.cells (markI.cells none 0).toArray 72 (0, 0)), .own b13 (.cells (badI.cells none 0).toArray 72 (0, 0)), .own b12 (.cells (placeI.cells none 0).toArray 72 (0, 0)), .own b11 (.cells pP.cells.toArray 70 (0, 0))] [(11, .pointer (some ⟨b11, 0, none⟩)), (12, .pointer (some ⟨b12, 0, none⟩)), (13, .pointer (some ⟨b13, 0, none⟩)), (14, .pointer (some ⟨b14, 0, none⟩)), (15, .pointer (some ⟨b15, 0, none⟩))] (k22_107 b11 b12 b13 b14 b15) [] := by
  refine ⟨fun g g' hl => ⟨?_, ?_⟩, _, rfl, fun g h R LA e => ?_⟩
  · simp only [k22_107]
  · simp only [k22_107]
  subst e
  dsimp only [depF, depA, extF, List.cons_append, List.nil_append, List.append_eq]
  repeat'(first|refine kv' ?_|apply jJ|refine jE' ?_|refine jp' ?_|(apply jc;kernel_rfl)|refine kg' ?_|refine kG' ?_|refine kB' fun _=>?_|refine kA' fun _=>?_|refine kK' fun _=>?_|refine kU' ?_|(apply kq; (· exact rfl); (· intro w1 h1; exact CallsTo.q (g33 7 w1) h1))|((first|refine kR' ?_ ?_|refine kQ' ?_ ?_);all_goals(intro hc;try simp only[hcs]at hc;try(exfalso;first|contradiction|omega))))
  exact At.item ⟨none, 0, 0, 0⟩ rfl (fun w h => h)
noncomputable def k22_108 (b11 : Nat) (b12 : Nat) (b13 : Nat) (b14 : Nat) (b15 : Nat) : IT := ⟨15, 108, [], fun g => .agg ([.int .i64 2, .int .i64 7, .int .i64 0, .int .i64 0, .int .i64 0, .int .i64 1, .int .i64 1, .int .i64 1, .int .i64 0, .int .i64 0, .int .i64 1, .int .i64 1, .bool false, .int .i64 0, .int .i64 0, .int .i64 0, .int .i64 0, .slice none 0 0, .int .i64 0, .int .i64 0, .int .i64 0, .int .i64 0, .slice none 0 0] : List Value).toArray, fun g => []⟩
theorem k22_108_ok (w0 : World) (b11 : Nat) (b12 : Nat) (b13 : Nat) (b14 : Nat) (b15 : Nat) : ILoc (k22_108 b11 b12 b13 b14 b15) ∧ IOk Try.prog 173 k22_ops w0 NoF [.own b15 (.cells (lowI.cells none 0).toArray 72 (0, 0)), .own b14 (.cells (markI.cells none 0).toArray 72 (0, 0)), .own b13 (.cells (badI.cells none 0).toArray 72 (0, 0)), .own b12 (.cells (placeI.cells none 0).toArray 72 (0, 0)), .own b11 (.cells pP.cells.toArray 70 (0, 0))] [(11, .pointer (some ⟨b11, 0, none⟩)), (12, .pointer (some ⟨b12, 0, none⟩)), (13, .pointer (some ⟨b13, 0, none⟩)), (14, .pointer (some ⟨b14, 0, none⟩)), (15, .pointer (some ⟨b15, 0, none⟩))] (k22_108 b11 b12 b13 b14 b15) [k22_107 b11 b12 b13 b14 b15] := by
  refine ⟨fun g g' hl => ⟨?_, ?_⟩, _, rfl, fun g h R LA e => ?_⟩
  · simp only [k22_108]
  · simp only [k22_108]
  subst e
  dsimp only [depF, depA, extF, k22_107, List.cons_append, List.nil_append, List.append_eq]
  repeat'(first|refine kv' ?_|apply jJ|refine jE' ?_|refine jp' ?_|(apply jc;kernel_rfl)|refine kg' ?_|refine kG' ?_|refine kB' fun _=>?_|refine kA' fun _=>?_|refine kK' fun _=>?_|refine kU' ?_|((first|refine kR' ?_ ?_|refine kQ' ?_ ?_);all_goals(intro hc;try simp only[hcs]at hc;try(exfalso;first|contradiction|omega))))
  exact At.item ⟨none, 0, 0, 0⟩ rfl (fun w h => h)
noncomputable def k22_109 (b11 : Nat) (b12 : Nat) (b13 : Nat) (b14 : Nat) (b15 : Nat) : IT := ⟨16, 109, [], fun g => .agg ([.int .i64 9, .int .i64 0, .int .i64 0, .int .i64 0, .int .i64 1, .int .i64 1, .int .i64 1, .int .i64 0, .int .i64 0, .int .i64 1, .int .i64 1, .bool false, .int .i64 0, .int .i64 0, .int .i64 0, .int .i64 0, .slice none 0 0, .int .i64 0, .int .i64 0, .int .i64 0, .int .i64 0] : List Value).toArray, fun g => []⟩
theorem k22_109_ok (w0 : World) (b11 : Nat) (b12 : Nat) (b13 : Nat) (b14 : Nat) (b15 : Nat) : ILoc (k22_109 b11 b12 b13 b14 b15) ∧ IOk Try.prog 173 k22_ops w0 NoF [.own b15 (.cells (lowI.cells none 0).toArray 72 (0, 0)), .own b14 (.cells (markI.cells none 0).toArray 72 (0, 0)), .own b13 (.cells (badI.cells none 0).toArray 72 (0, 0)), .own b12 (.cells (placeI.cells none 0).toArray 72 (0, 0)), .own b11 (.cells pP.cells.toArray 70 (0, 0))] [(11, .pointer (some ⟨b11, 0, none⟩)), (12, .pointer (some ⟨b12, 0, none⟩)), (13, .pointer (some ⟨b13, 0, none⟩)), (14, .pointer (some ⟨b14, 0, none⟩)), (15, .pointer (some ⟨b15, 0, none⟩))] (k22_109 b11 b12 b13 b14 b15) [] := by
  refine ⟨fun g g' hl => ⟨?_, ?_⟩, _, rfl, fun g h R LA e => ?_⟩
  · simp only [k22_109]
  · simp only [k22_109]
  subst e
  dsimp only [depF, depA, extF, List.cons_append, List.nil_append, List.append_eq]
  repeat'(first|refine kv' ?_|apply jJ|refine jE' ?_|refine jp' ?_|(apply jc;kernel_rfl)|refine kg' ?_|refine kG' ?_|refine kB' fun _=>?_|refine kA' fun _=>?_|refine kK' fun _=>?_|refine kU' ?_|(apply kq; (· exact rfl); (· intro w1 h1; exact CallsTo.q (g33 9 w1) h1))|((first|refine kR' ?_ ?_|refine kQ' ?_ ?_);all_goals(intro hc;try simp only[hcs]at hc;try(exfalso;first|contradiction|omega))))
  exact At.item ⟨none, 0, 0, 0⟩ rfl (fun w h => h)
noncomputable def k22_110 (b11 : Nat) (b12 : Nat) (b13 : Nat) (b14 : Nat) (b15 : Nat) : IT := ⟨17, 110, [], fun g => .agg ([.int .i64 2, .int .i64 9, .int .i64 0, .int .i64 0, .int .i64 0, .int .i64 1, .int .i64 1, .int .i64 1, .int .i64 0, .int .i64 0, .int .i64 1, .int .i64 1, .bool false, .int .i64 0, .int .i64 0, .int .i64 0, .int .i64 0, .slice none 0 0, .int .i64 0, .int .i64 0, .int .i64 0, .int .i64 0, .slice none 0 0] : List Value).toArray, fun g => []⟩
theorem k22_110_ok (w0 : World) (b11 : Nat) (b12 : Nat) (b13 : Nat) (b14 : Nat) (b15 : Nat) : ILoc (k22_110 b11 b12 b13 b14 b15) ∧ IOk Try.prog 173 k22_ops w0 NoF [.own b15 (.cells (lowI.cells none 0).toArray 72 (0, 0)), .own b14 (.cells (markI.cells none 0).toArray 72 (0, 0)), .own b13 (.cells (badI.cells none 0).toArray 72 (0, 0)), .own b12 (.cells (placeI.cells none 0).toArray 72 (0, 0)), .own b11 (.cells pP.cells.toArray 70 (0, 0))] [(11, .pointer (some ⟨b11, 0, none⟩)), (12, .pointer (some ⟨b12, 0, none⟩)), (13, .pointer (some ⟨b13, 0, none⟩)), (14, .pointer (some ⟨b14, 0, none⟩)), (15, .pointer (some ⟨b15, 0, none⟩))] (k22_110 b11 b12 b13 b14 b15) [k22_109 b11 b12 b13 b14 b15] := by
  refine ⟨fun g g' hl => ⟨?_, ?_⟩, _, rfl, fun g h R LA e => ?_⟩
  · simp only [k22_110]
  · simp only [k22_110]
  subst e
  dsimp only [depF, depA, extF, k22_109, List.cons_append, List.nil_append, List.append_eq]
  repeat'(first|refine kv' ?_|apply jJ|refine jE' ?_|refine jp' ?_|(apply jc;kernel_rfl)|refine kg' ?_|refine kG' ?_|refine kB' fun _=>?_|refine kA' fun _=>?_|refine kK' fun _=>?_|refine kU' ?_|((first|refine kR' ?_ ?_|refine kQ' ?_ ?_);all_goals(intro hc;try simp only[hcs]at hc;try(exfalso;first|contradiction|omega))))
  exact At.item ⟨none, 0, 0, 0⟩ rfl (fun w h => h)
noncomputable def k22_111 (b11 : Nat) (b12 : Nat) (b13 : Nat) (b14 : Nat) (b15 : Nat) : IT := ⟨18, 111, [], fun g => .agg ([.int .i64 20, .int .i64 0, .int .i64 0, .int .i64 0, .int .i64 1, .int .i64 1, .int .i64 1, .int .i64 0, .int .i64 0, .int .i64 1, .int .i64 1, .bool false, .int .i64 0, .int .i64 0, .int .i64 0, .int .i64 0, .slice none 0 0, .int .i64 0, .int .i64 0, .int .i64 0, .int .i64 0] : List Value).toArray, fun g => []⟩
theorem k22_111_ok (w0 : World) (b11 : Nat) (b12 : Nat) (b13 : Nat) (b14 : Nat) (b15 : Nat) : ILoc (k22_111 b11 b12 b13 b14 b15) ∧ IOk Try.prog 173 k22_ops w0 NoF [.own b15 (.cells (lowI.cells none 0).toArray 72 (0, 0)), .own b14 (.cells (markI.cells none 0).toArray 72 (0, 0)), .own b13 (.cells (badI.cells none 0).toArray 72 (0, 0)), .own b12 (.cells (placeI.cells none 0).toArray 72 (0, 0)), .own b11 (.cells pP.cells.toArray 70 (0, 0))] [(11, .pointer (some ⟨b11, 0, none⟩)), (12, .pointer (some ⟨b12, 0, none⟩)), (13, .pointer (some ⟨b13, 0, none⟩)), (14, .pointer (some ⟨b14, 0, none⟩)), (15, .pointer (some ⟨b15, 0, none⟩))] (k22_111 b11 b12 b13 b14 b15) [] := by
  refine ⟨fun g g' hl => ⟨?_, ?_⟩, _, rfl, fun g h R LA e => ?_⟩
  · simp only [k22_111]
  · simp only [k22_111]
  subst e
  dsimp only [depF, depA, extF, List.cons_append, List.nil_append, List.append_eq]
  repeat'(first|refine kv' ?_|apply jJ|refine jE' ?_|refine jp' ?_|(apply jc;kernel_rfl)|refine kg' ?_|refine kG' ?_|refine kB' fun _=>?_|refine kA' fun _=>?_|refine kK' fun _=>?_|refine kU' ?_|(apply kq; (· exact rfl); (· intro w1 h1; exact CallsTo.q (g33 20 w1) h1))|((first|refine kR' ?_ ?_|refine kQ' ?_ ?_);all_goals(intro hc;try simp only[hcs]at hc;try(exfalso;first|contradiction|omega))))
  exact At.item ⟨none, 0, 0, 0⟩ rfl (fun w h => h)
noncomputable def k22_112 (b11 : Nat) (b12 : Nat) (b13 : Nat) (b14 : Nat) (b15 : Nat) : IT := ⟨19, 112, [], fun g => .agg ([.int .i64 4, .int .i64 20, .int .i64 0, .int .i64 0, .int .i64 0, .int .i64 1, .int .i64 1, .int .i64 1, .int .i64 0, .int .i64 0, .int .i64 1, .int .i64 1, .bool false, .int .i64 0, .int .i64 0, .int .i64 0, .int .i64 0, .slice none 0 0, .int .i64 0, .int .i64 0, .int .i64 0, .int .i64 0, .slice none 0 0] : List Value).toArray, fun g => []⟩
theorem k22_112_ok (w0 : World) (b11 : Nat) (b12 : Nat) (b13 : Nat) (b14 : Nat) (b15 : Nat) : ILoc (k22_112 b11 b12 b13 b14 b15) ∧ IOk Try.prog 173 k22_ops w0 NoF [.own b15 (.cells (lowI.cells none 0).toArray 72 (0, 0)), .own b14 (.cells (markI.cells none 0).toArray 72 (0, 0)), .own b13 (.cells (badI.cells none 0).toArray 72 (0, 0)), .own b12 (.cells (placeI.cells none 0).toArray 72 (0, 0)), .own b11 (.cells pP.cells.toArray 70 (0, 0))] [(11, .pointer (some ⟨b11, 0, none⟩)), (12, .pointer (some ⟨b12, 0, none⟩)), (13, .pointer (some ⟨b13, 0, none⟩)), (14, .pointer (some ⟨b14, 0, none⟩)), (15, .pointer (some ⟨b15, 0, none⟩))] (k22_112 b11 b12 b13 b14 b15) [k22_111 b11 b12 b13 b14 b15] := by
  refine ⟨fun g g' hl => ⟨?_, ?_⟩, _, rfl, fun g h R LA e => ?_⟩
  · simp only [k22_112]
  · simp only [k22_112]
  subst e
  dsimp only [depF, depA, extF, k22_111, List.cons_append, List.nil_append, List.append_eq]
  repeat'(first|refine kv' ?_|apply jJ|refine jE' ?_|refine jp' ?_|(apply jc;kernel_rfl)|refine kg' ?_|refine kG' ?_|refine kB' fun _=>?_|refine kA' fun _=>?_|refine kK' fun _=>?_|refine kU' ?_|((first|refine kR' ?_ ?_|refine kQ' ?_ ?_);all_goals(intro hc;try simp only[hcs]at hc;try(exfalso;first|contradiction|omega))))
  exact At.item ⟨none, 0, 0, 0⟩ rfl (fun w h => h)
noncomputable def k22_113 (b11 : Nat) (b12 : Nat) (b13 : Nat) (b14 : Nat) (b15 : Nat) : IT := ⟨20, 113, [], fun g => .agg ([.int .i64 19, .int .i64 0, .int .i64 0, .int .i64 0, .int .i64 1, .int .i64 1, .int .i64 1, .int .i64 0, .int .i64 0, .int .i64 1, .int .i64 1, .bool false, .int .i64 0, .int .i64 0, .int .i64 0, .int .i64 0, .slice none 0 0, .int .i64 0, .int .i64 0, .int .i64 0, .int .i64 0] : List Value).toArray, fun g => []⟩
theorem k22_113_ok (w0 : World) (b11 : Nat) (b12 : Nat) (b13 : Nat) (b14 : Nat) (b15 : Nat) : ILoc (k22_113 b11 b12 b13 b14 b15) ∧ IOk Try.prog 173 k22_ops w0 NoF [.own b15 (.cells (lowI.cells none 0).toArray 72 (0, 0)), .own b14 (.cells (markI.cells none 0).toArray 72 (0, 0)), .own b13 (.cells (badI.cells none 0).toArray 72 (0, 0)), .own b12 (.cells (placeI.cells none 0).toArray 72 (0, 0)), .own b11 (.cells pP.cells.toArray 70 (0, 0))] [(11, .pointer (some ⟨b11, 0, none⟩)), (12, .pointer (some ⟨b12, 0, none⟩)), (13, .pointer (some ⟨b13, 0, none⟩)), (14, .pointer (some ⟨b14, 0, none⟩)), (15, .pointer (some ⟨b15, 0, none⟩))] (k22_113 b11 b12 b13 b14 b15) [] := by
  refine ⟨fun g g' hl => ⟨?_, ?_⟩, _, rfl, fun g h R LA e => ?_⟩
  · simp only [k22_113]
  · simp only [k22_113]
  subst e
  dsimp only [depF, depA, extF, List.cons_append, List.nil_append, List.append_eq]
  repeat'(first|refine kv' ?_|apply jJ|refine jE' ?_|refine jp' ?_|(apply jc;kernel_rfl)|refine kg' ?_|refine kG' ?_|refine kB' fun _=>?_|refine kA' fun _=>?_|refine kK' fun _=>?_|refine kU' ?_|(apply kq; (· exact rfl); (· intro w1 h1; exact CallsTo.q (g33 19 w1) h1))|((first|refine kR' ?_ ?_|refine kQ' ?_ ?_);all_goals(intro hc;try simp only[hcs]at hc;try(exfalso;first|contradiction|omega))))
  exact At.item ⟨none, 0, 0, 0⟩ rfl (fun w h => h)
noncomputable def k22_114 (b11 : Nat) (b12 : Nat) (b13 : Nat) (b14 : Nat) (b15 : Nat) : IT := ⟨21, 114, [], fun g => .agg ([.int .i64 0, .int .i64 19, .int .i64 0, .int .i64 0, .int .i64 0, .int .i64 1, .int .i64 1, .int .i64 1, .int .i64 0, .int .i64 0, .int .i64 1, .int .i64 1, .bool false, .int .i64 0, .int .i64 0, .int .i64 0, .int .i64 0, .slice none 0 0, .int .i64 0, .int .i64 0, .int .i64 0, .int .i64 0, .slice none 0 0] : List Value).toArray, fun g => []⟩
theorem k22_114_ok (w0 : World) (b11 : Nat) (b12 : Nat) (b13 : Nat) (b14 : Nat) (b15 : Nat) : ILoc (k22_114 b11 b12 b13 b14 b15) ∧ IOk Try.prog 173 k22_ops w0 NoF [.own b15 (.cells (lowI.cells none 0).toArray 72 (0, 0)), .own b14 (.cells (markI.cells none 0).toArray 72 (0, 0)), .own b13 (.cells (badI.cells none 0).toArray 72 (0, 0)), .own b12 (.cells (placeI.cells none 0).toArray 72 (0, 0)), .own b11 (.cells pP.cells.toArray 70 (0, 0))] [(11, .pointer (some ⟨b11, 0, none⟩)), (12, .pointer (some ⟨b12, 0, none⟩)), (13, .pointer (some ⟨b13, 0, none⟩)), (14, .pointer (some ⟨b14, 0, none⟩)), (15, .pointer (some ⟨b15, 0, none⟩))] (k22_114 b11 b12 b13 b14 b15) [k22_113 b11 b12 b13 b14 b15] := by
  refine ⟨fun g g' hl => ⟨?_, ?_⟩, _, rfl, fun g h R LA e => ?_⟩
  · simp only [k22_114]
  · simp only [k22_114]
  subst e
  dsimp only [depF, depA, extF, k22_113, List.cons_append, List.nil_append, List.append_eq]
  repeat'(first|refine kv' ?_|apply jJ|refine jE' ?_|refine jp' ?_|(apply jc;kernel_rfl)|refine kg' ?_|refine kG' ?_|refine kB' fun _=>?_|refine kA' fun _=>?_|refine kK' fun _=>?_|refine kU' ?_|((first|refine kR' ?_ ?_|refine kQ' ?_ ?_);all_goals(intro hc;try simp only[hcs]at hc;try(exfalso;first|contradiction|omega))))
  exact At.item ⟨none, 0, 0, 0⟩ rfl (fun w h => h)
noncomputable def k22_115 (b11 : Nat) (b12 : Nat) (b13 : Nat) (b14 : Nat) (b15 : Nat) : IT := ⟨22, 115, [], fun g => .agg ([.int .i64 2, .int .i64 0, .int .i64 0, .int .i64 0, .int .i64 1, .int .i64 1, .int .i64 1, .int .i64 0, .int .i64 0, .int .i64 1, .int .i64 1, .bool false, .int .i64 0, .int .i64 0, .int .i64 0, .int .i64 0, .slice none 0 0, .int .i64 0, .int .i64 0, .int .i64 0, .int .i64 0] : List Value).toArray, fun g => []⟩
theorem k22_115_ok (w0 : World) (b11 : Nat) (b12 : Nat) (b13 : Nat) (b14 : Nat) (b15 : Nat) : ILoc (k22_115 b11 b12 b13 b14 b15) ∧ IOk Try.prog 173 k22_ops w0 NoF [.own b15 (.cells (lowI.cells none 0).toArray 72 (0, 0)), .own b14 (.cells (markI.cells none 0).toArray 72 (0, 0)), .own b13 (.cells (badI.cells none 0).toArray 72 (0, 0)), .own b12 (.cells (placeI.cells none 0).toArray 72 (0, 0)), .own b11 (.cells pP.cells.toArray 70 (0, 0))] [(11, .pointer (some ⟨b11, 0, none⟩)), (12, .pointer (some ⟨b12, 0, none⟩)), (13, .pointer (some ⟨b13, 0, none⟩)), (14, .pointer (some ⟨b14, 0, none⟩)), (15, .pointer (some ⟨b15, 0, none⟩))] (k22_115 b11 b12 b13 b14 b15) [] := by
  refine ⟨fun g g' hl => ⟨?_, ?_⟩, _, rfl, fun g h R LA e => ?_⟩
  · simp only [k22_115]
  · simp only [k22_115]
  subst e
  dsimp only [depF, depA, extF, List.cons_append, List.nil_append, List.append_eq]
  repeat'(first|refine kv' ?_|apply jJ|refine jE' ?_|refine jp' ?_|(apply jc;kernel_rfl)|refine kg' ?_|refine kG' ?_|refine kB' fun _=>?_|refine kA' fun _=>?_|refine kK' fun _=>?_|refine kU' ?_|(apply kq; (· exact rfl); (· intro w1 h1; exact CallsTo.q (g33 2 w1) h1))|((first|refine kR' ?_ ?_|refine kQ' ?_ ?_);all_goals(intro hc;try simp only[hcs]at hc;try(exfalso;first|contradiction|omega))))
  exact At.item ⟨none, 0, 0, 0⟩ rfl (fun w h => h)
noncomputable def k22_116 (b11 : Nat) (b12 : Nat) (b13 : Nat) (b14 : Nat) (b15 : Nat) : IT := ⟨23, 116, [], fun g => .agg ([.int .i64 1, .int .i64 3, .int .i64 2, .int .i64 6] : List Value).toArray, fun g => []⟩
theorem k22_116_ok (w0 : World) (b11 : Nat) (b12 : Nat) (b13 : Nat) (b14 : Nat) (b15 : Nat) : ILoc (k22_116 b11 b12 b13 b14 b15) ∧ IOk Try.prog 173 k22_ops w0 NoF [.own b15 (.cells (lowI.cells none 0).toArray 72 (0, 0)), .own b14 (.cells (markI.cells none 0).toArray 72 (0, 0)), .own b13 (.cells (badI.cells none 0).toArray 72 (0, 0)), .own b12 (.cells (placeI.cells none 0).toArray 72 (0, 0)), .own b11 (.cells pP.cells.toArray 70 (0, 0))] [(11, .pointer (some ⟨b11, 0, none⟩)), (12, .pointer (some ⟨b12, 0, none⟩)), (13, .pointer (some ⟨b13, 0, none⟩)), (14, .pointer (some ⟨b14, 0, none⟩)), (15, .pointer (some ⟨b15, 0, none⟩))] (k22_116 b11 b12 b13 b14 b15) [] := by
  refine ⟨fun g g' hl => ⟨?_, ?_⟩, _, rfl, fun g h R LA e => ?_⟩
  · simp only [k22_116]
  · simp only [k22_116]
  subst e
  dsimp only [depF, depA, extF, List.cons_append, List.nil_append, List.append_eq]
  repeat'(first|(apply LR.ev; (· apply Ev.load_agg_at (cs := pP.cells); (· exact rfl); (· exact rfl); (· intro w' hw' j v hj; exact Rd.cell0 (hw'.rd_of_blk (b := b11) (cs := pP.cells) memZ) hj)); (· exact rfl))|refine kv' ?_|apply jJ|refine jE' ?_|refine jp' ?_|(apply jc;kernel_rfl)|refine kg' ?_|refine kG' ?_|refine kB' fun _=>?_|refine kA' fun _=>?_|refine kK' fun _=>?_|refine kU' ?_|((first|refine kR' ?_ ?_|refine kQ' ?_ ?_);all_goals(intro hc;try simp only[hcs]at hc;try(exfalso;first|contradiction|omega))))
  exact At.item ⟨none, 0, 0, 0⟩ rfl (fun w h => h)
noncomputable def k22_117 (b11 : Nat) (b12 : Nat) (b13 : Nat) (b14 : Nat) (b15 : Nat) : IT := ⟨24, 117, [117], fun g => .slice (some ⟨(g 117).b, 0, none⟩) 1 1, fun g => [.own (g 117).b (.cells ([.int .i64 1, .int .i64 3, .int .i64 2, .int .i64 6] : List Value).toArray 70 (0, 0))]⟩
theorem k22_117_ok (w0 : World) (b11 : Nat) (b12 : Nat) (b13 : Nat) (b14 : Nat) (b15 : Nat) : ILoc (k22_117 b11 b12 b13 b14 b15) ∧ IOk Try.prog 173 k22_ops w0 NoF [.own b15 (.cells (lowI.cells none 0).toArray 72 (0, 0)), .own b14 (.cells (markI.cells none 0).toArray 72 (0, 0)), .own b13 (.cells (badI.cells none 0).toArray 72 (0, 0)), .own b12 (.cells (placeI.cells none 0).toArray 72 (0, 0)), .own b11 (.cells pP.cells.toArray 70 (0, 0))] [(11, .pointer (some ⟨b11, 0, none⟩)), (12, .pointer (some ⟨b12, 0, none⟩)), (13, .pointer (some ⟨b13, 0, none⟩)), (14, .pointer (some ⟨b14, 0, none⟩)), (15, .pointer (some ⟨b15, 0, none⟩))] (k22_117 b11 b12 b13 b14 b15) [k22_116 b11 b12 b13 b14 b15] := by
  refine ⟨fun g g' hl => ⟨?_, ?_⟩, _, rfl, fun g h R LA e => ?_⟩
  · simp only [k22_117, hl 117 (show 117 ∈ [117] by decide)]
  · simp only [k22_117, hl 117 (show 117 ∈ [117] by decide)]
  subst e
  dsimp only [depF, depA, extF, k22_116, List.cons_append, List.nil_append, List.append_eq]
  repeat'(first|(refine kK' (T := 85) fun bk => ?_)|refine kv' ?_|apply jJ|refine jE' ?_|refine jp' ?_|(apply jc;kernel_rfl)|refine kg' ?_|refine kG' ?_|refine kB' fun _=>?_|refine kA' fun _=>?_|refine kK' fun _=>?_|refine kU' ?_|((first|refine kR' ?_ ?_|refine kQ' ?_ ?_);all_goals(intro hc;try simp only[hcs]at hc;try(exfalso;first|contradiction|omega))))
  exact At.item ⟨none, bk, 0, 0⟩ rfl (fun w h => h)
noncomputable def k22_118 (b11 : Nat) (b12 : Nat) (b13 : Nat) (b14 : Nat) (b15 : Nat) : IT := ⟨25, 118, [117], fun g => .agg ([.int .i64 4, .int .i64 2, .int .i64 0, .int .i64 0, .int .i64 0, .int .i64 1, .int .i64 1, .int .i64 1, .int .i64 0, .int .i64 0, .int .i64 1, .int .i64 1, .bool false, .int .i64 0, .int .i64 0, .int .i64 0, .int .i64 0, .slice none 0 0, .int .i64 0, .int .i64 0, .int .i64 0, .int .i64 0, .slice (some ⟨(g 117).b, 0, none⟩) 1 1] : List Value).toArray, fun g => []⟩
theorem k22_118_ok (w0 : World) (b11 : Nat) (b12 : Nat) (b13 : Nat) (b14 : Nat) (b15 : Nat) : ILoc (k22_118 b11 b12 b13 b14 b15) ∧ IOk Try.prog 173 k22_ops w0 NoF [.own b15 (.cells (lowI.cells none 0).toArray 72 (0, 0)), .own b14 (.cells (markI.cells none 0).toArray 72 (0, 0)), .own b13 (.cells (badI.cells none 0).toArray 72 (0, 0)), .own b12 (.cells (placeI.cells none 0).toArray 72 (0, 0)), .own b11 (.cells pP.cells.toArray 70 (0, 0))] [(11, .pointer (some ⟨b11, 0, none⟩)), (12, .pointer (some ⟨b12, 0, none⟩)), (13, .pointer (some ⟨b13, 0, none⟩)), (14, .pointer (some ⟨b14, 0, none⟩)), (15, .pointer (some ⟨b15, 0, none⟩))] (k22_118 b11 b12 b13 b14 b15) [k22_115 b11 b12 b13 b14 b15, k22_117 b11 b12 b13 b14 b15] := by
  refine ⟨fun g g' hl => ⟨?_, ?_⟩, _, rfl, fun g h R LA e => ?_⟩
  · simp only [k22_118, hl 117 (show 117 ∈ [117] by decide)]
  · simp only [k22_118, hl 117 (show 117 ∈ [117] by decide)]
  subst e
  dsimp only [depF, depA, extF, k22_115, k22_117, List.cons_append, List.nil_append, List.append_eq]
  repeat'(first|refine kv' ?_|apply jJ|refine jE' ?_|refine jp' ?_|(apply jc;kernel_rfl)|refine kg' ?_|refine kG' ?_|refine kB' fun _=>?_|refine kA' fun _=>?_|refine kK' fun _=>?_|refine kU' ?_|((first|refine kR' ?_ ?_|refine kQ' ?_ ?_);all_goals(intro hc;try simp only[hcs]at hc;try(exfalso;first|contradiction|omega))))
  exact At.item ⟨none, 0, 0, 0⟩ rfl (fun w h => h)
noncomputable def k22_119 (b11 : Nat) (b12 : Nat) (b13 : Nat) (b14 : Nat) (b15 : Nat) : IT := ⟨26, 119, [], fun g => .agg ([.int .i64 25, .int .i64 0, .int .i64 0, .int .i64 0, .int .i64 1, .int .i64 1, .int .i64 1, .int .i64 0, .int .i64 0, .int .i64 1, .int .i64 1, .bool false, .int .i64 0, .int .i64 0, .int .i64 0, .int .i64 0, .slice none 0 0, .int .i64 0, .int .i64 0, .int .i64 0, .int .i64 0] : List Value).toArray, fun g => []⟩
theorem k22_119_ok (w0 : World) (b11 : Nat) (b12 : Nat) (b13 : Nat) (b14 : Nat) (b15 : Nat) : ILoc (k22_119 b11 b12 b13 b14 b15) ∧ IOk Try.prog 173 k22_ops w0 NoF [.own b15 (.cells (lowI.cells none 0).toArray 72 (0, 0)), .own b14 (.cells (markI.cells none 0).toArray 72 (0, 0)), .own b13 (.cells (badI.cells none 0).toArray 72 (0, 0)), .own b12 (.cells (placeI.cells none 0).toArray 72 (0, 0)), .own b11 (.cells pP.cells.toArray 70 (0, 0))] [(11, .pointer (some ⟨b11, 0, none⟩)), (12, .pointer (some ⟨b12, 0, none⟩)), (13, .pointer (some ⟨b13, 0, none⟩)), (14, .pointer (some ⟨b14, 0, none⟩)), (15, .pointer (some ⟨b15, 0, none⟩))] (k22_119 b11 b12 b13 b14 b15) [] := by
  refine ⟨fun g g' hl => ⟨?_, ?_⟩, _, rfl, fun g h R LA e => ?_⟩
  · simp only [k22_119]
  · simp only [k22_119]
  subst e
  dsimp only [depF, depA, extF, List.cons_append, List.nil_append, List.append_eq]
  repeat'(first|refine kv' ?_|apply jJ|refine jE' ?_|refine jp' ?_|(apply jc;kernel_rfl)|refine kg' ?_|refine kG' ?_|refine kB' fun _=>?_|refine kA' fun _=>?_|refine kK' fun _=>?_|refine kU' ?_|(apply kq; (· exact rfl); (· intro w1 h1; exact CallsTo.q (g33 25 w1) h1))|((first|refine kR' ?_ ?_|refine kQ' ?_ ?_);all_goals(intro hc;try simp only[hcs]at hc;try(exfalso;first|contradiction|omega))))
  exact At.item ⟨none, 0, 0, 0⟩ rfl (fun w h => h)
noncomputable def k22_120 (b11 : Nat) (b12 : Nat) (b13 : Nat) (b14 : Nat) (b15 : Nat) : IT := ⟨27, 120, [], fun g => .agg ([.int .i64 1, .int .i64 3, .int .i64 2, .int .i64 6] : List Value).toArray, fun g => []⟩
theorem k22_120_ok (w0 : World) (b11 : Nat) (b12 : Nat) (b13 : Nat) (b14 : Nat) (b15 : Nat) : ILoc (k22_120 b11 b12 b13 b14 b15) ∧ IOk Try.prog 173 k22_ops w0 NoF [.own b15 (.cells (lowI.cells none 0).toArray 72 (0, 0)), .own b14 (.cells (markI.cells none 0).toArray 72 (0, 0)), .own b13 (.cells (badI.cells none 0).toArray 72 (0, 0)), .own b12 (.cells (placeI.cells none 0).toArray 72 (0, 0)), .own b11 (.cells pP.cells.toArray 70 (0, 0))] [(11, .pointer (some ⟨b11, 0, none⟩)), (12, .pointer (some ⟨b12, 0, none⟩)), (13, .pointer (some ⟨b13, 0, none⟩)), (14, .pointer (some ⟨b14, 0, none⟩)), (15, .pointer (some ⟨b15, 0, none⟩))] (k22_120 b11 b12 b13 b14 b15) [] := by
  refine ⟨fun g g' hl => ⟨?_, ?_⟩, _, rfl, fun g h R LA e => ?_⟩
  · simp only [k22_120]
  · simp only [k22_120]
  subst e
  dsimp only [depF, depA, extF, List.cons_append, List.nil_append, List.append_eq]
  repeat'(first|(apply LR.ev; (· apply Ev.load_agg_at (cs := pP.cells); (· exact rfl); (· exact rfl); (· intro w' hw' j v hj; exact Rd.cell0 (hw'.rd_of_blk (b := b11) (cs := pP.cells) memZ) hj)); (· exact rfl))|refine kv' ?_|apply jJ|refine jE' ?_|refine jp' ?_|(apply jc;kernel_rfl)|refine kg' ?_|refine kG' ?_|refine kB' fun _=>?_|refine kA' fun _=>?_|refine kK' fun _=>?_|refine kU' ?_|((first|refine kR' ?_ ?_|refine kQ' ?_ ?_);all_goals(intro hc;try simp only[hcs]at hc;try(exfalso;first|contradiction|omega))))
  exact At.item ⟨none, 0, 0, 0⟩ rfl (fun w h => h)
noncomputable def k22_121 (b11 : Nat) (b12 : Nat) (b13 : Nat) (b14 : Nat) (b15 : Nat) : IT := ⟨28, 121, [], fun g => .agg ([.int .i64 1, .int .i64 3, .int .i64 2, .int .i64 6] : List Value).toArray, fun g => []⟩
theorem k22_121_ok (w0 : World) (b11 : Nat) (b12 : Nat) (b13 : Nat) (b14 : Nat) (b15 : Nat) : ILoc (k22_121 b11 b12 b13 b14 b15) ∧ IOk Try.prog 173 k22_ops w0 NoF [.own b15 (.cells (lowI.cells none 0).toArray 72 (0, 0)), .own b14 (.cells (markI.cells none 0).toArray 72 (0, 0)), .own b13 (.cells (badI.cells none 0).toArray 72 (0, 0)), .own b12 (.cells (placeI.cells none 0).toArray 72 (0, 0)), .own b11 (.cells pP.cells.toArray 70 (0, 0))] [(11, .pointer (some ⟨b11, 0, none⟩)), (12, .pointer (some ⟨b12, 0, none⟩)), (13, .pointer (some ⟨b13, 0, none⟩)), (14, .pointer (some ⟨b14, 0, none⟩)), (15, .pointer (some ⟨b15, 0, none⟩))] (k22_121 b11 b12 b13 b14 b15) [] := by
  refine ⟨fun g g' hl => ⟨?_, ?_⟩, _, rfl, fun g h R LA e => ?_⟩
  · simp only [k22_121]
  · simp only [k22_121]
  subst e
  dsimp only [depF, depA, extF, List.cons_append, List.nil_append, List.append_eq]
  repeat'(first|(apply LR.ev; (· apply Ev.load_agg_at (cs := pP.cells); (· exact rfl); (· exact rfl); (· intro w' hw' j v hj; exact Rd.cell0 (hw'.rd_of_blk (b := b11) (cs := pP.cells) memZ) hj)); (· exact rfl))|refine kv' ?_|apply jJ|refine jE' ?_|refine jp' ?_|(apply jc;kernel_rfl)|refine kg' ?_|refine kG' ?_|refine kB' fun _=>?_|refine kA' fun _=>?_|refine kK' fun _=>?_|refine kU' ?_|((first|refine kR' ?_ ?_|refine kQ' ?_ ?_);all_goals(intro hc;try simp only[hcs]at hc;try(exfalso;first|contradiction|omega))))
  exact At.item ⟨none, 0, 0, 0⟩ rfl (fun w h => h)
noncomputable def k22_122 (b11 : Nat) (b12 : Nat) (b13 : Nat) (b14 : Nat) (b15 : Nat) : IT := ⟨29, 122, [122], fun g => .slice (some ⟨(g 122).b, 0, none⟩) 2 2, fun g => [.own (g 122).b (.cells ([.int .i64 1, .int .i64 3, .int .i64 2, .int .i64 6, .int .i64 1, .int .i64 3, .int .i64 2, .int .i64 6] : List Value).toArray 70 (0, 0))]⟩
theorem k22_122_ok (w0 : World) (b11 : Nat) (b12 : Nat) (b13 : Nat) (b14 : Nat) (b15 : Nat) : ILoc (k22_122 b11 b12 b13 b14 b15) ∧ IOk Try.prog 173 k22_ops w0 NoF [.own b15 (.cells (lowI.cells none 0).toArray 72 (0, 0)), .own b14 (.cells (markI.cells none 0).toArray 72 (0, 0)), .own b13 (.cells (badI.cells none 0).toArray 72 (0, 0)), .own b12 (.cells (placeI.cells none 0).toArray 72 (0, 0)), .own b11 (.cells pP.cells.toArray 70 (0, 0))] [(11, .pointer (some ⟨b11, 0, none⟩)), (12, .pointer (some ⟨b12, 0, none⟩)), (13, .pointer (some ⟨b13, 0, none⟩)), (14, .pointer (some ⟨b14, 0, none⟩)), (15, .pointer (some ⟨b15, 0, none⟩))] (k22_122 b11 b12 b13 b14 b15) [k22_120 b11 b12 b13 b14 b15, k22_121 b11 b12 b13 b14 b15] := by
  refine ⟨fun g g' hl => ⟨?_, ?_⟩, _, rfl, fun g h R LA e => ?_⟩
  · simp only [k22_122, hl 122 (show 122 ∈ [122] by decide)]
  · simp only [k22_122, hl 122 (show 122 ∈ [122] by decide)]
  subst e
  dsimp only [depF, depA, extF, k22_120, k22_121, List.cons_append, List.nil_append, List.append_eq]
  repeat'(first|(refine kK' (T := 85) fun bk => ?_)|refine kv' ?_|apply jJ|refine jE' ?_|refine jp' ?_|(apply jc;kernel_rfl)|refine kg' ?_|refine kG' ?_|refine kB' fun _=>?_|refine kA' fun _=>?_|refine kK' fun _=>?_|refine kU' ?_|((first|refine kR' ?_ ?_|refine kQ' ?_ ?_);all_goals(intro hc;try simp only[hcs]at hc;try(exfalso;first|contradiction|omega))))
  exact At.item ⟨none, bk, 0, 0⟩ rfl (fun w h => h)
noncomputable def k22_123 (b11 : Nat) (b12 : Nat) (b13 : Nat) (b14 : Nat) (b15 : Nat) : IT := ⟨30, 123, [122], fun g => .agg ([.int .i64 4, .int .i64 25, .int .i64 0, .int .i64 0, .int .i64 0, .int .i64 1, .int .i64 1, .int .i64 1, .int .i64 0, .int .i64 0, .int .i64 1, .int .i64 1, .bool false, .int .i64 0, .int .i64 0, .int .i64 0, .int .i64 0, .slice none 0 0, .int .i64 0, .int .i64 0, .int .i64 0, .int .i64 0, .slice (some ⟨(g 122).b, 0, none⟩) 2 2] : List Value).toArray, fun g => []⟩
theorem k22_123_ok (w0 : World) (b11 : Nat) (b12 : Nat) (b13 : Nat) (b14 : Nat) (b15 : Nat) : ILoc (k22_123 b11 b12 b13 b14 b15) ∧ IOk Try.prog 173 k22_ops w0 NoF [.own b15 (.cells (lowI.cells none 0).toArray 72 (0, 0)), .own b14 (.cells (markI.cells none 0).toArray 72 (0, 0)), .own b13 (.cells (badI.cells none 0).toArray 72 (0, 0)), .own b12 (.cells (placeI.cells none 0).toArray 72 (0, 0)), .own b11 (.cells pP.cells.toArray 70 (0, 0))] [(11, .pointer (some ⟨b11, 0, none⟩)), (12, .pointer (some ⟨b12, 0, none⟩)), (13, .pointer (some ⟨b13, 0, none⟩)), (14, .pointer (some ⟨b14, 0, none⟩)), (15, .pointer (some ⟨b15, 0, none⟩))] (k22_123 b11 b12 b13 b14 b15) [k22_119 b11 b12 b13 b14 b15, k22_122 b11 b12 b13 b14 b15] := by
  refine ⟨fun g g' hl => ⟨?_, ?_⟩, _, rfl, fun g h R LA e => ?_⟩
  · simp only [k22_123, hl 122 (show 122 ∈ [122] by decide)]
  · simp only [k22_123, hl 122 (show 122 ∈ [122] by decide)]
  subst e
  dsimp only [depF, depA, extF, k22_119, k22_122, List.cons_append, List.nil_append, List.append_eq]
  repeat'(first|refine kv' ?_|apply jJ|refine jE' ?_|refine jp' ?_|(apply jc;kernel_rfl)|refine kg' ?_|refine kG' ?_|refine kB' fun _=>?_|refine kA' fun _=>?_|refine kK' fun _=>?_|refine kU' ?_|((first|refine kR' ?_ ?_|refine kQ' ?_ ?_);all_goals(intro hc;try simp only[hcs]at hc;try(exfalso;first|contradiction|omega))))
  exact At.item ⟨none, 0, 0, 0⟩ rfl (fun w h => h)
noncomputable def k22_124 (b11 : Nat) (b12 : Nat) (b13 : Nat) (b14 : Nat) (b15 : Nat) : IT := ⟨31, 124, [], fun g => .agg ([.int .i64 30, .int .i64 0, .int .i64 0, .int .i64 0, .int .i64 0, .int .i64 0, .int .i64 0, .int .i64 0, .int .i64 0, .int .i64 0, .int .i64 0, .bool false, .int .i64 0, .int .i64 0, .int .i64 0, .int .i64 0, .slice none 0 0, .int .i64 1, .int .i64 3, .int .i64 2, .int .i64 6] : List Value).toArray, fun g => []⟩
theorem k22_124_ok (w0 : World) (b11 : Nat) (b12 : Nat) (b13 : Nat) (b14 : Nat) (b15 : Nat) : ILoc (k22_124 b11 b12 b13 b14 b15) ∧ IOk Try.prog 173 k22_ops w0 NoF [.own b15 (.cells (lowI.cells none 0).toArray 72 (0, 0)), .own b14 (.cells (markI.cells none 0).toArray 72 (0, 0)), .own b13 (.cells (badI.cells none 0).toArray 72 (0, 0)), .own b12 (.cells (placeI.cells none 0).toArray 72 (0, 0)), .own b11 (.cells pP.cells.toArray 70 (0, 0))] [(11, .pointer (some ⟨b11, 0, none⟩)), (12, .pointer (some ⟨b12, 0, none⟩)), (13, .pointer (some ⟨b13, 0, none⟩)), (14, .pointer (some ⟨b14, 0, none⟩)), (15, .pointer (some ⟨b15, 0, none⟩))] (k22_124 b11 b12 b13 b14 b15) [] := by
  refine ⟨fun g g' hl => ⟨?_, ?_⟩, _, rfl, fun g h R LA e => ?_⟩
  · simp only [k22_124]
  · simp only [k22_124]
  subst e
  dsimp only [depF, depA, extF, List.cons_append, List.nil_append, List.append_eq]
  repeat'(first|(apply LR.ev; (· apply Ev.load_agg_at (cs := (placeI.cells none 0)); (· exact rfl); (· exact rfl); (· intro w' hw' j v hj; exact Rd.cell0 (hw'.rd_of_blk (b := b12) (cs := (placeI.cells none 0)) memZ) hj)); (· exact rfl))|refine kv' ?_|apply jJ|refine jE' ?_|refine jp' ?_|(apply jc;kernel_rfl)|refine kg' ?_|refine kG' ?_|refine kB' fun _=>?_|refine kA' fun _=>?_|refine kK' fun _=>?_|refine kU' ?_|((first|refine kR' ?_ ?_|refine kQ' ?_ ?_);all_goals(intro hc;try simp only[hcs]at hc;try(exfalso;first|contradiction|omega))))
  exact At.item ⟨none, 0, 0, 0⟩ rfl (fun w h => h)
noncomputable def k22_125 (b11 : Nat) (b12 : Nat) (b13 : Nat) (b14 : Nat) (b15 : Nat) : IT := ⟨32, 125, [], fun g => .agg ([.int .i64 0, .int .i64 30, .int .i64 0, .int .i64 0, .int .i64 0, .int .i64 0, .int .i64 0, .int .i64 0, .int .i64 0, .int .i64 0, .int .i64 0, .int .i64 0, .bool false, .int .i64 0, .int .i64 0, .int .i64 0, .int .i64 0, .slice none 0 0, .int .i64 1, .int .i64 3, .int .i64 2, .int .i64 6, .slice none 0 0] : List Value).toArray, fun g => []⟩
theorem k22_125_ok (w0 : World) (b11 : Nat) (b12 : Nat) (b13 : Nat) (b14 : Nat) (b15 : Nat) : ILoc (k22_125 b11 b12 b13 b14 b15) ∧ IOk Try.prog 173 k22_ops w0 NoF [.own b15 (.cells (lowI.cells none 0).toArray 72 (0, 0)), .own b14 (.cells (markI.cells none 0).toArray 72 (0, 0)), .own b13 (.cells (badI.cells none 0).toArray 72 (0, 0)), .own b12 (.cells (placeI.cells none 0).toArray 72 (0, 0)), .own b11 (.cells pP.cells.toArray 70 (0, 0))] [(11, .pointer (some ⟨b11, 0, none⟩)), (12, .pointer (some ⟨b12, 0, none⟩)), (13, .pointer (some ⟨b13, 0, none⟩)), (14, .pointer (some ⟨b14, 0, none⟩)), (15, .pointer (some ⟨b15, 0, none⟩))] (k22_125 b11 b12 b13 b14 b15) [k22_124 b11 b12 b13 b14 b15] := by
  refine ⟨fun g g' hl => ⟨?_, ?_⟩, _, rfl, fun g h R LA e => ?_⟩
  · simp only [k22_125]
  · simp only [k22_125]
  subst e
  dsimp only [depF, depA, extF, k22_124, List.cons_append, List.nil_append, List.append_eq]
  repeat'(first|refine kv' ?_|apply jJ|refine jE' ?_|refine jp' ?_|(apply jc;kernel_rfl)|refine kg' ?_|refine kG' ?_|refine kB' fun _=>?_|refine kA' fun _=>?_|refine kK' fun _=>?_|refine kU' ?_|((first|refine kR' ?_ ?_|refine kQ' ?_ ?_);all_goals(intro hc;try simp only[hcs]at hc;try(exfalso;first|contradiction|omega))))
  exact At.item ⟨none, 0, 0, 0⟩ rfl (fun w h => h)
noncomputable def k22_126 (b11 : Nat) (b12 : Nat) (b13 : Nat) (b14 : Nat) (b15 : Nat) : IT := ⟨33, 126, [], fun g => .agg ([.int .i64 31, .int .i64 0, .int .i64 0, .int .i64 0, .int .i64 1, .int .i64 1, .int .i64 1, .int .i64 0, .int .i64 0, .int .i64 1, .int .i64 0, .bool false, .int .i64 0, .int .i64 0, .int .i64 0, .int .i64 0, .slice none 0 0, .int .i64 0, .int .i64 0, .int .i64 0, .int .i64 0] : List Value).toArray, fun g => []⟩
theorem k22_126_ok (w0 : World) (b11 : Nat) (b12 : Nat) (b13 : Nat) (b14 : Nat) (b15 : Nat) : ILoc (k22_126 b11 b12 b13 b14 b15) ∧ IOk Try.prog 173 k22_ops w0 NoF [.own b15 (.cells (lowI.cells none 0).toArray 72 (0, 0)), .own b14 (.cells (markI.cells none 0).toArray 72 (0, 0)), .own b13 (.cells (badI.cells none 0).toArray 72 (0, 0)), .own b12 (.cells (placeI.cells none 0).toArray 72 (0, 0)), .own b11 (.cells pP.cells.toArray 70 (0, 0))] [(11, .pointer (some ⟨b11, 0, none⟩)), (12, .pointer (some ⟨b12, 0, none⟩)), (13, .pointer (some ⟨b13, 0, none⟩)), (14, .pointer (some ⟨b14, 0, none⟩)), (15, .pointer (some ⟨b15, 0, none⟩))] (k22_126 b11 b12 b13 b14 b15) [] := by
  refine ⟨fun g g' hl => ⟨?_, ?_⟩, _, rfl, fun g h R LA e => ?_⟩
  · simp only [k22_126]
  · simp only [k22_126]
  subst e
  dsimp only [depF, depA, extF, List.cons_append, List.nil_append, List.append_eq]
  repeat'(first|(apply LR.ev; (· apply Ev.load_agg_at (cs := (badI.cells none 0)); (· exact rfl); (· exact rfl); (· intro w' hw' j v hj; exact Rd.cell0 (hw'.rd_of_blk (b := b13) (cs := (badI.cells none 0)) memZ) hj)); (· exact rfl))|refine kv' ?_|apply jJ|refine jE' ?_|refine jp' ?_|(apply jc;kernel_rfl)|refine kg' ?_|refine kG' ?_|refine kB' fun _=>?_|refine kA' fun _=>?_|refine kK' fun _=>?_|refine kU' ?_|((first|refine kR' ?_ ?_|refine kQ' ?_ ?_);all_goals(intro hc;try simp only[hcs]at hc;try(exfalso;first|contradiction|omega))))
  exact At.item ⟨none, 0, 0, 0⟩ rfl (fun w h => h)
noncomputable def k22_127 (b11 : Nat) (b12 : Nat) (b13 : Nat) (b14 : Nat) (b15 : Nat) : IT := ⟨34, 127, [], fun g => .agg ([.int .i64 0, .int .i64 31, .int .i64 0, .int .i64 0, .int .i64 0, .int .i64 1, .int .i64 1, .int .i64 1, .int .i64 0, .int .i64 0, .int .i64 1, .int .i64 0, .bool false, .int .i64 0, .int .i64 0, .int .i64 0, .int .i64 0, .slice none 0 0, .int .i64 0, .int .i64 0, .int .i64 0, .int .i64 0, .slice none 0 0] : List Value).toArray, fun g => []⟩
theorem k22_127_ok (w0 : World) (b11 : Nat) (b12 : Nat) (b13 : Nat) (b14 : Nat) (b15 : Nat) : ILoc (k22_127 b11 b12 b13 b14 b15) ∧ IOk Try.prog 173 k22_ops w0 NoF [.own b15 (.cells (lowI.cells none 0).toArray 72 (0, 0)), .own b14 (.cells (markI.cells none 0).toArray 72 (0, 0)), .own b13 (.cells (badI.cells none 0).toArray 72 (0, 0)), .own b12 (.cells (placeI.cells none 0).toArray 72 (0, 0)), .own b11 (.cells pP.cells.toArray 70 (0, 0))] [(11, .pointer (some ⟨b11, 0, none⟩)), (12, .pointer (some ⟨b12, 0, none⟩)), (13, .pointer (some ⟨b13, 0, none⟩)), (14, .pointer (some ⟨b14, 0, none⟩)), (15, .pointer (some ⟨b15, 0, none⟩))] (k22_127 b11 b12 b13 b14 b15) [k22_126 b11 b12 b13 b14 b15] := by
  refine ⟨fun g g' hl => ⟨?_, ?_⟩, _, rfl, fun g h R LA e => ?_⟩
  · simp only [k22_127]
  · simp only [k22_127]
  subst e
  dsimp only [depF, depA, extF, k22_126, List.cons_append, List.nil_append, List.append_eq]
  repeat'(first|refine kv' ?_|apply jJ|refine jE' ?_|refine jp' ?_|(apply jc;kernel_rfl)|refine kg' ?_|refine kG' ?_|refine kB' fun _=>?_|refine kA' fun _=>?_|refine kK' fun _=>?_|refine kU' ?_|((first|refine kR' ?_ ?_|refine kQ' ?_ ?_);all_goals(intro hc;try simp only[hcs]at hc;try(exfalso;first|contradiction|omega))))
  exact At.item ⟨none, 0, 0, 0⟩ rfl (fun w h => h)
noncomputable def k22_128 (b11 : Nat) (b12 : Nat) (b13 : Nat) (b14 : Nat) (b15 : Nat) : IT := ⟨35, 128, [], fun g => .agg ([.int .i64 32, .int .i64 0, .int .i64 0, .int .i64 0, .int .i64 2, .int .i64 1, .int .i64 0, .int .i64 0, .int .i64 0, .int .i64 0, .int .i64 0, .bool false, .int .i64 0, .int .i64 0, .int .i64 0, .int .i64 0, .slice none 0 0, .int .i64 0, .int .i64 0, .int .i64 0, .int .i64 0] : List Value).toArray, fun g => []⟩
theorem k22_128_ok (w0 : World) (b11 : Nat) (b12 : Nat) (b13 : Nat) (b14 : Nat) (b15 : Nat) : ILoc (k22_128 b11 b12 b13 b14 b15) ∧ IOk Try.prog 173 k22_ops w0 NoF [.own b15 (.cells (lowI.cells none 0).toArray 72 (0, 0)), .own b14 (.cells (markI.cells none 0).toArray 72 (0, 0)), .own b13 (.cells (badI.cells none 0).toArray 72 (0, 0)), .own b12 (.cells (placeI.cells none 0).toArray 72 (0, 0)), .own b11 (.cells pP.cells.toArray 70 (0, 0))] [(11, .pointer (some ⟨b11, 0, none⟩)), (12, .pointer (some ⟨b12, 0, none⟩)), (13, .pointer (some ⟨b13, 0, none⟩)), (14, .pointer (some ⟨b14, 0, none⟩)), (15, .pointer (some ⟨b15, 0, none⟩))] (k22_128 b11 b12 b13 b14 b15) [] := by
  refine ⟨fun g g' hl => ⟨?_, ?_⟩, _, rfl, fun g h R LA e => ?_⟩
  · simp only [k22_128]
  · simp only [k22_128]
  subst e
  dsimp only [depF, depA, extF, List.cons_append, List.nil_append, List.append_eq]
  repeat'(first|(apply LR.ev; (· apply Ev.load_agg_at (cs := (markI.cells none 0)); (· exact rfl); (· exact rfl); (· intro w' hw' j v hj; exact Rd.cell0 (hw'.rd_of_blk (b := b14) (cs := (markI.cells none 0)) memZ) hj)); (· exact rfl))|refine kv' ?_|apply jJ|refine jE' ?_|refine jp' ?_|(apply jc;kernel_rfl)|refine kg' ?_|refine kG' ?_|refine kB' fun _=>?_|refine kA' fun _=>?_|refine kK' fun _=>?_|refine kU' ?_|((first|refine kR' ?_ ?_|refine kQ' ?_ ?_);all_goals(intro hc;try simp only[hcs]at hc;try(exfalso;first|contradiction|omega))))
  exact At.item ⟨none, 0, 0, 0⟩ rfl (fun w h => h)
noncomputable def k22_129 (b11 : Nat) (b12 : Nat) (b13 : Nat) (b14 : Nat) (b15 : Nat) : IT := ⟨36, 129, [], fun g => .agg ([.int .i64 0, .int .i64 32, .int .i64 0, .int .i64 0, .int .i64 0, .int .i64 2, .int .i64 1, .int .i64 0, .int .i64 0, .int .i64 0, .int .i64 0, .int .i64 0, .bool false, .int .i64 0, .int .i64 0, .int .i64 0, .int .i64 0, .slice none 0 0, .int .i64 0, .int .i64 0, .int .i64 0, .int .i64 0, .slice none 0 0] : List Value).toArray, fun g => []⟩
theorem k22_129_ok (w0 : World) (b11 : Nat) (b12 : Nat) (b13 : Nat) (b14 : Nat) (b15 : Nat) : ILoc (k22_129 b11 b12 b13 b14 b15) ∧ IOk Try.prog 173 k22_ops w0 NoF [.own b15 (.cells (lowI.cells none 0).toArray 72 (0, 0)), .own b14 (.cells (markI.cells none 0).toArray 72 (0, 0)), .own b13 (.cells (badI.cells none 0).toArray 72 (0, 0)), .own b12 (.cells (placeI.cells none 0).toArray 72 (0, 0)), .own b11 (.cells pP.cells.toArray 70 (0, 0))] [(11, .pointer (some ⟨b11, 0, none⟩)), (12, .pointer (some ⟨b12, 0, none⟩)), (13, .pointer (some ⟨b13, 0, none⟩)), (14, .pointer (some ⟨b14, 0, none⟩)), (15, .pointer (some ⟨b15, 0, none⟩))] (k22_129 b11 b12 b13 b14 b15) [k22_128 b11 b12 b13 b14 b15] := by
  refine ⟨fun g g' hl => ⟨?_, ?_⟩, _, rfl, fun g h R LA e => ?_⟩
  · simp only [k22_129]
  · simp only [k22_129]
  subst e
  dsimp only [depF, depA, extF, k22_128, List.cons_append, List.nil_append, List.append_eq]
  repeat'(first|refine kv' ?_|apply jJ|refine jE' ?_|refine jp' ?_|(apply jc;kernel_rfl)|refine kg' ?_|refine kG' ?_|refine kB' fun _=>?_|refine kA' fun _=>?_|refine kK' fun _=>?_|refine kU' ?_|((first|refine kR' ?_ ?_|refine kQ' ?_ ?_);all_goals(intro hc;try simp only[hcs]at hc;try(exfalso;first|contradiction|omega))))
  exact At.item ⟨none, 0, 0, 0⟩ rfl (fun w h => h)
noncomputable def k22_130 (b11 : Nat) (b12 : Nat) (b13 : Nat) (b14 : Nat) (b15 : Nat) : IT := ⟨37, 130, [], fun g => .agg ([.int .i64 (-1), .int .i64 0, .int .i64 0, .int .i64 0, .int .i64 1, .int .i64 1, .int .i64 1, .int .i64 0, .int .i64 0, .int .i64 1, .int .i64 1, .bool false, .int .i64 0, .int .i64 0, .int .i64 0, .int .i64 0, .slice none 0 0, .int .i64 0, .int .i64 0, .int .i64 0, .int .i64 0] : List Value).toArray, fun g => []⟩
theorem k22_130_ok (w0 : World) (b11 : Nat) (b12 : Nat) (b13 : Nat) (b14 : Nat) (b15 : Nat) : ILoc (k22_130 b11 b12 b13 b14 b15) ∧ IOk Try.prog 173 k22_ops w0 NoF [.own b15 (.cells (lowI.cells none 0).toArray 72 (0, 0)), .own b14 (.cells (markI.cells none 0).toArray 72 (0, 0)), .own b13 (.cells (badI.cells none 0).toArray 72 (0, 0)), .own b12 (.cells (placeI.cells none 0).toArray 72 (0, 0)), .own b11 (.cells pP.cells.toArray 70 (0, 0))] [(11, .pointer (some ⟨b11, 0, none⟩)), (12, .pointer (some ⟨b12, 0, none⟩)), (13, .pointer (some ⟨b13, 0, none⟩)), (14, .pointer (some ⟨b14, 0, none⟩)), (15, .pointer (some ⟨b15, 0, none⟩))] (k22_130 b11 b12 b13 b14 b15) [] := by
  refine ⟨fun g g' hl => ⟨?_, ?_⟩, _, rfl, fun g h R LA e => ?_⟩
  · simp only [k22_130]
  · simp only [k22_130]
  subst e
  dsimp only [depF, depA, extF, List.cons_append, List.nil_append, List.append_eq]
  repeat'(first|(apply LR.ev; (· apply Ev.load_agg_at (cs := (lowI.cells none 0)); (· exact rfl); (· exact rfl); (· intro w' hw' j v hj; exact Rd.cell0 (hw'.rd_of_blk (b := b15) (cs := (lowI.cells none 0)) memZ) hj)); (· exact rfl))|refine kv' ?_|apply jJ|refine jE' ?_|refine jp' ?_|(apply jc;kernel_rfl)|refine kg' ?_|refine kG' ?_|refine kB' fun _=>?_|refine kA' fun _=>?_|refine kK' fun _=>?_|refine kU' ?_|((first|refine kR' ?_ ?_|refine kQ' ?_ ?_);all_goals(intro hc;try simp only[hcs]at hc;try(exfalso;first|contradiction|omega))))
  exact At.item ⟨none, 0, 0, 0⟩ rfl (fun w h => h)
noncomputable def k22_131 (b11 : Nat) (b12 : Nat) (b13 : Nat) (b14 : Nat) (b15 : Nat) : IT := ⟨38, 131, [], fun g => .agg ([.int .i64 0, .int .i64 (-1), .int .i64 0, .int .i64 0, .int .i64 0, .int .i64 1, .int .i64 1, .int .i64 1, .int .i64 0, .int .i64 0, .int .i64 1, .int .i64 1, .bool false, .int .i64 0, .int .i64 0, .int .i64 0, .int .i64 0, .slice none 0 0, .int .i64 0, .int .i64 0, .int .i64 0, .int .i64 0, .slice none 0 0] : List Value).toArray, fun g => []⟩
theorem k22_131_ok (w0 : World) (b11 : Nat) (b12 : Nat) (b13 : Nat) (b14 : Nat) (b15 : Nat) : ILoc (k22_131 b11 b12 b13 b14 b15) ∧ IOk Try.prog 173 k22_ops w0 NoF [.own b15 (.cells (lowI.cells none 0).toArray 72 (0, 0)), .own b14 (.cells (markI.cells none 0).toArray 72 (0, 0)), .own b13 (.cells (badI.cells none 0).toArray 72 (0, 0)), .own b12 (.cells (placeI.cells none 0).toArray 72 (0, 0)), .own b11 (.cells pP.cells.toArray 70 (0, 0))] [(11, .pointer (some ⟨b11, 0, none⟩)), (12, .pointer (some ⟨b12, 0, none⟩)), (13, .pointer (some ⟨b13, 0, none⟩)), (14, .pointer (some ⟨b14, 0, none⟩)), (15, .pointer (some ⟨b15, 0, none⟩))] (k22_131 b11 b12 b13 b14 b15) [k22_130 b11 b12 b13 b14 b15] := by
  refine ⟨fun g g' hl => ⟨?_, ?_⟩, _, rfl, fun g h R LA e => ?_⟩
  · simp only [k22_131]
  · simp only [k22_131]
  subst e
  dsimp only [depF, depA, extF, k22_130, List.cons_append, List.nil_append, List.append_eq]
  repeat'(first|refine kv' ?_|apply jJ|refine jE' ?_|refine jp' ?_|(apply jc;kernel_rfl)|refine kg' ?_|refine kG' ?_|refine kB' fun _=>?_|refine kA' fun _=>?_|refine kK' fun _=>?_|refine kU' ?_|((first|refine kR' ?_ ?_|refine kQ' ?_ ?_);all_goals(intro hc;try simp only[hcs]at hc;try(exfalso;first|contradiction|omega))))
  exact At.item ⟨none, 0, 0, 0⟩ rfl (fun w h => h)
noncomputable def k22_132 (b11 : Nat) (b12 : Nat) (b13 : Nat) (b14 : Nat) (b15 : Nat) : IT := ⟨39, 132, [], fun g => .agg ([.int .i64 40, .int .i64 0, .int .i64 0, .int .i64 0] : List Value).toArray, fun g => []⟩
theorem k22_132_ok (w0 : World) (b11 : Nat) (b12 : Nat) (b13 : Nat) (b14 : Nat) (b15 : Nat) : ILoc (k22_132 b11 b12 b13 b14 b15) ∧ IOk Try.prog 173 k22_ops w0 NoF [.own b15 (.cells (lowI.cells none 0).toArray 72 (0, 0)), .own b14 (.cells (markI.cells none 0).toArray 72 (0, 0)), .own b13 (.cells (badI.cells none 0).toArray 72 (0, 0)), .own b12 (.cells (placeI.cells none 0).toArray 72 (0, 0)), .own b11 (.cells pP.cells.toArray 70 (0, 0))] [(11, .pointer (some ⟨b11, 0, none⟩)), (12, .pointer (some ⟨b12, 0, none⟩)), (13, .pointer (some ⟨b13, 0, none⟩)), (14, .pointer (some ⟨b14, 0, none⟩)), (15, .pointer (some ⟨b15, 0, none⟩))] (k22_132 b11 b12 b13 b14 b15) [] := by
  refine ⟨fun g g' hl => ⟨?_, ?_⟩, _, rfl, fun g h R LA e => ?_⟩
  · simp only [k22_132]
  · simp only [k22_132]
  subst e
  dsimp only [depF, depA, extF, List.cons_append, List.nil_append, List.append_eq]
  repeat'(first|refine kv' ?_|apply jJ|refine jE' ?_|refine jp' ?_|(apply jc;kernel_rfl)|refine kg' ?_|refine kG' ?_|refine kB' fun _=>?_|refine kA' fun _=>?_|refine kK' fun _=>?_|refine kU' ?_|(apply kq; (· exact rfl); (· intro w1 h1; exact CallsTo.q (g35 40 w1) h1))|((first|refine kR' ?_ ?_|refine kQ' ?_ ?_);all_goals(intro hc;try simp only[hcs]at hc;try(exfalso;first|contradiction|omega))))
  exact At.item ⟨none, 0, 0, 0⟩ rfl (fun w h => h)
noncomputable def k22_133 (b11 : Nat) (b12 : Nat) (b13 : Nat) (b14 : Nat) (b15 : Nat) : IT := ⟨40, 133, [], fun g => .agg ([.int .i64 40, .int .i64 0, .int .i64 0, .int .i64 0, .int .i64 0, .int .i64 0, .int .i64 0, .int .i64 0, .int .i64 0, .int .i64 0, .int .i64 0, .bool false, .int .i64 0, .int .i64 0, .int .i64 0, .int .i64 0, .slice none 0 0, .int .i64 0, .int .i64 0, .int .i64 0, .int .i64 0] : List Value).toArray, fun g => []⟩
theorem k22_133_ok (w0 : World) (b11 : Nat) (b12 : Nat) (b13 : Nat) (b14 : Nat) (b15 : Nat) : ILoc (k22_133 b11 b12 b13 b14 b15) ∧ IOk Try.prog 173 k22_ops w0 NoF [.own b15 (.cells (lowI.cells none 0).toArray 72 (0, 0)), .own b14 (.cells (markI.cells none 0).toArray 72 (0, 0)), .own b13 (.cells (badI.cells none 0).toArray 72 (0, 0)), .own b12 (.cells (placeI.cells none 0).toArray 72 (0, 0)), .own b11 (.cells pP.cells.toArray 70 (0, 0))] [(11, .pointer (some ⟨b11, 0, none⟩)), (12, .pointer (some ⟨b12, 0, none⟩)), (13, .pointer (some ⟨b13, 0, none⟩)), (14, .pointer (some ⟨b14, 0, none⟩)), (15, .pointer (some ⟨b15, 0, none⟩))] (k22_133 b11 b12 b13 b14 b15) [k22_132 b11 b12 b13 b14 b15] := by
  refine ⟨fun g g' hl => ⟨?_, ?_⟩, _, rfl, fun g h R LA e => ?_⟩
  · simp only [k22_133]
  · simp only [k22_133]
  subst e
  dsimp only [depF, depA, extF, k22_132, List.cons_append, List.nil_append, List.append_eq]
  repeat'(first|refine kv' ?_|apply jJ|refine jE' ?_|refine jp' ?_|(apply jc;kernel_rfl)|refine kg' ?_|refine kG' ?_|refine kB' fun _=>?_|refine kA' fun _=>?_|refine kK' fun _=>?_|refine kU' ?_|((first|refine kR' ?_ ?_|refine kQ' ?_ ?_);all_goals(intro hc;try simp only[hcs]at hc;try(exfalso;first|contradiction|omega))))
  exact At.item ⟨none, 0, 0, 0⟩ rfl (fun w h => h)
noncomputable def k22_134 (b11 : Nat) (b12 : Nat) (b13 : Nat) (b14 : Nat) (b15 : Nat) : IT := ⟨41, 134, [], fun g => .agg ([.int .i64 0, .int .i64 40, .int .i64 0, .int .i64 0, .int .i64 0, .int .i64 0, .int .i64 0, .int .i64 0, .int .i64 0, .int .i64 0, .int .i64 0, .int .i64 0, .bool false, .int .i64 0, .int .i64 0, .int .i64 0, .int .i64 0, .slice none 0 0, .int .i64 0, .int .i64 0, .int .i64 0, .int .i64 0, .slice none 0 0] : List Value).toArray, fun g => []⟩
theorem k22_134_ok (w0 : World) (b11 : Nat) (b12 : Nat) (b13 : Nat) (b14 : Nat) (b15 : Nat) : ILoc (k22_134 b11 b12 b13 b14 b15) ∧ IOk Try.prog 173 k22_ops w0 NoF [.own b15 (.cells (lowI.cells none 0).toArray 72 (0, 0)), .own b14 (.cells (markI.cells none 0).toArray 72 (0, 0)), .own b13 (.cells (badI.cells none 0).toArray 72 (0, 0)), .own b12 (.cells (placeI.cells none 0).toArray 72 (0, 0)), .own b11 (.cells pP.cells.toArray 70 (0, 0))] [(11, .pointer (some ⟨b11, 0, none⟩)), (12, .pointer (some ⟨b12, 0, none⟩)), (13, .pointer (some ⟨b13, 0, none⟩)), (14, .pointer (some ⟨b14, 0, none⟩)), (15, .pointer (some ⟨b15, 0, none⟩))] (k22_134 b11 b12 b13 b14 b15) [k22_133 b11 b12 b13 b14 b15] := by
  refine ⟨fun g g' hl => ⟨?_, ?_⟩, _, rfl, fun g h R LA e => ?_⟩
  · simp only [k22_134]
  · simp only [k22_134]
  subst e
  dsimp only [depF, depA, extF, k22_133, List.cons_append, List.nil_append, List.append_eq]
  repeat'(first|refine kv' ?_|apply jJ|refine jE' ?_|refine jp' ?_|(apply jc;kernel_rfl)|refine kg' ?_|refine kG' ?_|refine kB' fun _=>?_|refine kA' fun _=>?_|refine kK' fun _=>?_|refine kU' ?_|((first|refine kR' ?_ ?_|refine kQ' ?_ ?_);all_goals(intro hc;try simp only[hcs]at hc;try(exfalso;first|contradiction|omega))))
  exact At.item ⟨none, 0, 0, 0⟩ rfl (fun w h => h)
noncomputable def k22_135 (b11 : Nat) (b12 : Nat) (b13 : Nat) (b14 : Nat) (b15 : Nat) : IT := ⟨42, 135, [], fun g => .agg ([.int .i64 (-1), .int .i64 0, .int .i64 0, .int .i64 0, .int .i64 1, .int .i64 1, .int .i64 1, .int .i64 0, .int .i64 0, .int .i64 1, .int .i64 1, .bool false, .int .i64 0, .int .i64 0, .int .i64 0, .int .i64 0, .slice none 0 0, .int .i64 0, .int .i64 0, .int .i64 0, .int .i64 0] : List Value).toArray, fun g => []⟩
theorem k22_135_ok (w0 : World) (b11 : Nat) (b12 : Nat) (b13 : Nat) (b14 : Nat) (b15 : Nat) : ILoc (k22_135 b11 b12 b13 b14 b15) ∧ IOk Try.prog 173 k22_ops w0 NoF [.own b15 (.cells (lowI.cells none 0).toArray 72 (0, 0)), .own b14 (.cells (markI.cells none 0).toArray 72 (0, 0)), .own b13 (.cells (badI.cells none 0).toArray 72 (0, 0)), .own b12 (.cells (placeI.cells none 0).toArray 72 (0, 0)), .own b11 (.cells pP.cells.toArray 70 (0, 0))] [(11, .pointer (some ⟨b11, 0, none⟩)), (12, .pointer (some ⟨b12, 0, none⟩)), (13, .pointer (some ⟨b13, 0, none⟩)), (14, .pointer (some ⟨b14, 0, none⟩)), (15, .pointer (some ⟨b15, 0, none⟩))] (k22_135 b11 b12 b13 b14 b15) [] := by
  refine ⟨fun g g' hl => ⟨?_, ?_⟩, _, rfl, fun g h R LA e => ?_⟩
  · simp only [k22_135]
  · simp only [k22_135]
  subst e
  dsimp only [depF, depA, extF, List.cons_append, List.nil_append, List.append_eq]
  repeat'(first|(apply LR.ev; (· apply Ev.load_agg_at (cs := (lowI.cells none 0)); (· exact rfl); (· exact rfl); (· intro w' hw' j v hj; exact Rd.cell0 (hw'.rd_of_blk (b := b15) (cs := (lowI.cells none 0)) memZ) hj)); (· exact rfl))|refine kv' ?_|apply jJ|refine jE' ?_|refine jp' ?_|(apply jc;kernel_rfl)|refine kg' ?_|refine kG' ?_|refine kB' fun _=>?_|refine kA' fun _=>?_|refine kK' fun _=>?_|refine kU' ?_|((first|refine kR' ?_ ?_|refine kQ' ?_ ?_);all_goals(intro hc;try simp only[hcs]at hc;try(exfalso;first|contradiction|omega))))
  exact At.item ⟨none, 0, 0, 0⟩ rfl (fun w h => h)
noncomputable def k22_136 (b11 : Nat) (b12 : Nat) (b13 : Nat) (b14 : Nat) (b15 : Nat) : IT := ⟨43, 136, [], fun g => .agg ([.int .i64 1, .int .i64 (-1), .int .i64 0, .int .i64 0, .int .i64 0, .int .i64 1, .int .i64 1, .int .i64 1, .int .i64 0, .int .i64 0, .int .i64 1, .int .i64 1, .bool false, .int .i64 0, .int .i64 0, .int .i64 0, .int .i64 0, .slice none 0 0, .int .i64 0, .int .i64 0, .int .i64 0, .int .i64 0, .slice none 0 0] : List Value).toArray, fun g => []⟩
theorem k22_136_ok (w0 : World) (b11 : Nat) (b12 : Nat) (b13 : Nat) (b14 : Nat) (b15 : Nat) : ILoc (k22_136 b11 b12 b13 b14 b15) ∧ IOk Try.prog 173 k22_ops w0 NoF [.own b15 (.cells (lowI.cells none 0).toArray 72 (0, 0)), .own b14 (.cells (markI.cells none 0).toArray 72 (0, 0)), .own b13 (.cells (badI.cells none 0).toArray 72 (0, 0)), .own b12 (.cells (placeI.cells none 0).toArray 72 (0, 0)), .own b11 (.cells pP.cells.toArray 70 (0, 0))] [(11, .pointer (some ⟨b11, 0, none⟩)), (12, .pointer (some ⟨b12, 0, none⟩)), (13, .pointer (some ⟨b13, 0, none⟩)), (14, .pointer (some ⟨b14, 0, none⟩)), (15, .pointer (some ⟨b15, 0, none⟩))] (k22_136 b11 b12 b13 b14 b15) [k22_135 b11 b12 b13 b14 b15] := by
  refine ⟨fun g g' hl => ⟨?_, ?_⟩, _, rfl, fun g h R LA e => ?_⟩
  · simp only [k22_136]
  · simp only [k22_136]
  subst e
  dsimp only [depF, depA, extF, k22_135, List.cons_append, List.nil_append, List.append_eq]
  repeat'(first|refine kv' ?_|apply jJ|refine jE' ?_|refine jp' ?_|(apply jc;kernel_rfl)|refine kg' ?_|refine kG' ?_|refine kB' fun _=>?_|refine kA' fun _=>?_|refine kK' fun _=>?_|refine kU' ?_|((first|refine kR' ?_ ?_|refine kQ' ?_ ?_);all_goals(intro hc;try simp only[hcs]at hc;try(exfalso;first|contradiction|omega))))
  exact At.item ⟨none, 0, 0, 0⟩ rfl (fun w h => h)
noncomputable def k22_137 (b11 : Nat) (b12 : Nat) (b13 : Nat) (b14 : Nat) (b15 : Nat) : IT := ⟨44, 137, [], fun g => .agg ([.int .i64 50, .int .i64 0, .int .i64 0, .int .i64 0, .int .i64 1, .int .i64 1, .int .i64 1, .int .i64 0, .int .i64 0, .int .i64 1, .int .i64 1, .bool false, .int .i64 0, .int .i64 0, .int .i64 0, .int .i64 0, .slice none 0 0, .int .i64 0, .int .i64 0, .int .i64 0, .int .i64 0] : List Value).toArray, fun g => []⟩
theorem k22_137_ok (w0 : World) (b11 : Nat) (b12 : Nat) (b13 : Nat) (b14 : Nat) (b15 : Nat) : ILoc (k22_137 b11 b12 b13 b14 b15) ∧ IOk Try.prog 173 k22_ops w0 NoF [.own b15 (.cells (lowI.cells none 0).toArray 72 (0, 0)), .own b14 (.cells (markI.cells none 0).toArray 72 (0, 0)), .own b13 (.cells (badI.cells none 0).toArray 72 (0, 0)), .own b12 (.cells (placeI.cells none 0).toArray 72 (0, 0)), .own b11 (.cells pP.cells.toArray 70 (0, 0))] [(11, .pointer (some ⟨b11, 0, none⟩)), (12, .pointer (some ⟨b12, 0, none⟩)), (13, .pointer (some ⟨b13, 0, none⟩)), (14, .pointer (some ⟨b14, 0, none⟩)), (15, .pointer (some ⟨b15, 0, none⟩))] (k22_137 b11 b12 b13 b14 b15) [] := by
  refine ⟨fun g g' hl => ⟨?_, ?_⟩, _, rfl, fun g h R LA e => ?_⟩
  · simp only [k22_137]
  · simp only [k22_137]
  subst e
  dsimp only [depF, depA, extF, List.cons_append, List.nil_append, List.append_eq]
  repeat'(first|refine kv' ?_|apply jJ|refine jE' ?_|refine jp' ?_|(apply jc;kernel_rfl)|refine kg' ?_|refine kG' ?_|refine kB' fun _=>?_|refine kA' fun _=>?_|refine kK' fun _=>?_|refine kU' ?_|(apply kq; (· exact rfl); (· intro w1 h1; exact CallsTo.q (g33 50 w1) h1))|((first|refine kR' ?_ ?_|refine kQ' ?_ ?_);all_goals(intro hc;try simp only[hcs]at hc;try(exfalso;first|contradiction|omega))))
  exact At.item ⟨none, 0, 0, 0⟩ rfl (fun w h => h)
noncomputable def k22_138 (b11 : Nat) (b12 : Nat) (b13 : Nat) (b14 : Nat) (b15 : Nat) : IT := ⟨45, 138, [], fun g => .agg ([.int .i64 1, .int .i64 50, .int .i64 0, .int .i64 0, .int .i64 0, .int .i64 1, .int .i64 1, .int .i64 1, .int .i64 0, .int .i64 0, .int .i64 1, .int .i64 1, .bool false, .int .i64 0, .int .i64 0, .int .i64 0, .int .i64 0, .slice none 0 0, .int .i64 0, .int .i64 0, .int .i64 0, .int .i64 0, .slice none 0 0] : List Value).toArray, fun g => []⟩
theorem k22_138_ok (w0 : World) (b11 : Nat) (b12 : Nat) (b13 : Nat) (b14 : Nat) (b15 : Nat) : ILoc (k22_138 b11 b12 b13 b14 b15) ∧ IOk Try.prog 173 k22_ops w0 NoF [.own b15 (.cells (lowI.cells none 0).toArray 72 (0, 0)), .own b14 (.cells (markI.cells none 0).toArray 72 (0, 0)), .own b13 (.cells (badI.cells none 0).toArray 72 (0, 0)), .own b12 (.cells (placeI.cells none 0).toArray 72 (0, 0)), .own b11 (.cells pP.cells.toArray 70 (0, 0))] [(11, .pointer (some ⟨b11, 0, none⟩)), (12, .pointer (some ⟨b12, 0, none⟩)), (13, .pointer (some ⟨b13, 0, none⟩)), (14, .pointer (some ⟨b14, 0, none⟩)), (15, .pointer (some ⟨b15, 0, none⟩))] (k22_138 b11 b12 b13 b14 b15) [k22_137 b11 b12 b13 b14 b15] := by
  refine ⟨fun g g' hl => ⟨?_, ?_⟩, _, rfl, fun g h R LA e => ?_⟩
  · simp only [k22_138]
  · simp only [k22_138]
  subst e
  dsimp only [depF, depA, extF, k22_137, List.cons_append, List.nil_append, List.append_eq]
  repeat'(first|refine kv' ?_|apply jJ|refine jE' ?_|refine jp' ?_|(apply jc;kernel_rfl)|refine kg' ?_|refine kG' ?_|refine kB' fun _=>?_|refine kA' fun _=>?_|refine kK' fun _=>?_|refine kU' ?_|((first|refine kR' ?_ ?_|refine kQ' ?_ ?_);all_goals(intro hc;try simp only[hcs]at hc;try(exfalso;first|contradiction|omega))))
  exact At.item ⟨none, 0, 0, 0⟩ rfl (fun w h => h)
noncomputable def k22_139 (b11 : Nat) (b12 : Nat) (b13 : Nat) (b14 : Nat) (b15 : Nat) : IT := ⟨46, 139, [], fun g => .agg ([.int .i64 (-1), .int .i64 0, .int .i64 0, .int .i64 0, .int .i64 1, .int .i64 1, .int .i64 1, .int .i64 0, .int .i64 0, .int .i64 1, .int .i64 1, .bool false, .int .i64 0, .int .i64 0, .int .i64 0, .int .i64 0, .slice none 0 0, .int .i64 0, .int .i64 0, .int .i64 0, .int .i64 0] : List Value).toArray, fun g => []⟩
theorem k22_139_ok (w0 : World) (b11 : Nat) (b12 : Nat) (b13 : Nat) (b14 : Nat) (b15 : Nat) : ILoc (k22_139 b11 b12 b13 b14 b15) ∧ IOk Try.prog 173 k22_ops w0 NoF [.own b15 (.cells (lowI.cells none 0).toArray 72 (0, 0)), .own b14 (.cells (markI.cells none 0).toArray 72 (0, 0)), .own b13 (.cells (badI.cells none 0).toArray 72 (0, 0)), .own b12 (.cells (placeI.cells none 0).toArray 72 (0, 0)), .own b11 (.cells pP.cells.toArray 70 (0, 0))] [(11, .pointer (some ⟨b11, 0, none⟩)), (12, .pointer (some ⟨b12, 0, none⟩)), (13, .pointer (some ⟨b13, 0, none⟩)), (14, .pointer (some ⟨b14, 0, none⟩)), (15, .pointer (some ⟨b15, 0, none⟩))] (k22_139 b11 b12 b13 b14 b15) [] := by
  refine ⟨fun g g' hl => ⟨?_, ?_⟩, _, rfl, fun g h R LA e => ?_⟩
  · simp only [k22_139]
  · simp only [k22_139]
  subst e
  dsimp only [depF, depA, extF, List.cons_append, List.nil_append, List.append_eq]
  repeat'(first|(apply LR.ev; (· apply Ev.load_agg_at (cs := (lowI.cells none 0)); (· exact rfl); (· exact rfl); (· intro w' hw' j v hj; exact Rd.cell0 (hw'.rd_of_blk (b := b15) (cs := (lowI.cells none 0)) memZ) hj)); (· exact rfl))|refine kv' ?_|apply jJ|refine jE' ?_|refine jp' ?_|(apply jc;kernel_rfl)|refine kg' ?_|refine kG' ?_|refine kB' fun _=>?_|refine kA' fun _=>?_|refine kK' fun _=>?_|refine kU' ?_|((first|refine kR' ?_ ?_|refine kQ' ?_ ?_);all_goals(intro hc;try simp only[hcs]at hc;try(exfalso;first|contradiction|omega))))
  exact At.item ⟨none, 0, 0, 0⟩ rfl (fun w h => h)
noncomputable def k22_140 (b11 : Nat) (b12 : Nat) (b13 : Nat) (b14 : Nat) (b15 : Nat) : IT := ⟨47, 140, [], fun g => .agg ([.int .i64 2, .int .i64 (-1), .int .i64 0, .int .i64 0, .int .i64 0, .int .i64 1, .int .i64 1, .int .i64 1, .int .i64 0, .int .i64 0, .int .i64 1, .int .i64 1, .bool false, .int .i64 0, .int .i64 0, .int .i64 0, .int .i64 0, .slice none 0 0, .int .i64 0, .int .i64 0, .int .i64 0, .int .i64 0, .slice none 0 0] : List Value).toArray, fun g => []⟩
theorem k22_140_ok (w0 : World) (b11 : Nat) (b12 : Nat) (b13 : Nat) (b14 : Nat) (b15 : Nat) : ILoc (k22_140 b11 b12 b13 b14 b15) ∧ IOk Try.prog 173 k22_ops w0 NoF [.own b15 (.cells (lowI.cells none 0).toArray 72 (0, 0)), .own b14 (.cells (markI.cells none 0).toArray 72 (0, 0)), .own b13 (.cells (badI.cells none 0).toArray 72 (0, 0)), .own b12 (.cells (placeI.cells none 0).toArray 72 (0, 0)), .own b11 (.cells pP.cells.toArray 70 (0, 0))] [(11, .pointer (some ⟨b11, 0, none⟩)), (12, .pointer (some ⟨b12, 0, none⟩)), (13, .pointer (some ⟨b13, 0, none⟩)), (14, .pointer (some ⟨b14, 0, none⟩)), (15, .pointer (some ⟨b15, 0, none⟩))] (k22_140 b11 b12 b13 b14 b15) [k22_139 b11 b12 b13 b14 b15] := by
  refine ⟨fun g g' hl => ⟨?_, ?_⟩, _, rfl, fun g h R LA e => ?_⟩
  · simp only [k22_140]
  · simp only [k22_140]
  subst e
  dsimp only [depF, depA, extF, k22_139, List.cons_append, List.nil_append, List.append_eq]
  repeat'(first|refine kv' ?_|apply jJ|refine jE' ?_|refine jp' ?_|(apply jc;kernel_rfl)|refine kg' ?_|refine kG' ?_|refine kB' fun _=>?_|refine kA' fun _=>?_|refine kK' fun _=>?_|refine kU' ?_|((first|refine kR' ?_ ?_|refine kQ' ?_ ?_);all_goals(intro hc;try simp only[hcs]at hc;try(exfalso;first|contradiction|omega))))
  exact At.item ⟨none, 0, 0, 0⟩ rfl (fun w h => h)
noncomputable def k22_141 (b11 : Nat) (b12 : Nat) (b13 : Nat) (b14 : Nat) (b15 : Nat) : IT := ⟨48, 141, [], fun g => .agg ([.int .i64 (-1), .int .i64 0, .int .i64 0, .int .i64 0, .int .i64 1, .int .i64 1, .int .i64 1, .int .i64 0, .int .i64 0, .int .i64 1, .int .i64 1, .bool false, .int .i64 0, .int .i64 0, .int .i64 0, .int .i64 0, .slice none 0 0, .int .i64 0, .int .i64 0, .int .i64 0, .int .i64 0] : List Value).toArray, fun g => []⟩
theorem k22_141_ok (w0 : World) (b11 : Nat) (b12 : Nat) (b13 : Nat) (b14 : Nat) (b15 : Nat) : ILoc (k22_141 b11 b12 b13 b14 b15) ∧ IOk Try.prog 173 k22_ops w0 NoF [.own b15 (.cells (lowI.cells none 0).toArray 72 (0, 0)), .own b14 (.cells (markI.cells none 0).toArray 72 (0, 0)), .own b13 (.cells (badI.cells none 0).toArray 72 (0, 0)), .own b12 (.cells (placeI.cells none 0).toArray 72 (0, 0)), .own b11 (.cells pP.cells.toArray 70 (0, 0))] [(11, .pointer (some ⟨b11, 0, none⟩)), (12, .pointer (some ⟨b12, 0, none⟩)), (13, .pointer (some ⟨b13, 0, none⟩)), (14, .pointer (some ⟨b14, 0, none⟩)), (15, .pointer (some ⟨b15, 0, none⟩))] (k22_141 b11 b12 b13 b14 b15) [] := by
  refine ⟨fun g g' hl => ⟨?_, ?_⟩, _, rfl, fun g h R LA e => ?_⟩
  · simp only [k22_141]
  · simp only [k22_141]
  subst e
  dsimp only [depF, depA, extF, List.cons_append, List.nil_append, List.append_eq]
  repeat'(first|(apply LR.ev; (· apply Ev.load_agg_at (cs := (lowI.cells none 0)); (· exact rfl); (· exact rfl); (· intro w' hw' j v hj; exact Rd.cell0 (hw'.rd_of_blk (b := b15) (cs := (lowI.cells none 0)) memZ) hj)); (· exact rfl))|refine kv' ?_|apply jJ|refine jE' ?_|refine jp' ?_|(apply jc;kernel_rfl)|refine kg' ?_|refine kG' ?_|refine kB' fun _=>?_|refine kA' fun _=>?_|refine kK' fun _=>?_|refine kU' ?_|((first|refine kR' ?_ ?_|refine kQ' ?_ ?_);all_goals(intro hc;try simp only[hcs]at hc;try(exfalso;first|contradiction|omega))))
  exact At.item ⟨none, 0, 0, 0⟩ rfl (fun w h => h)
noncomputable def k22_142 (b11 : Nat) (b12 : Nat) (b13 : Nat) (b14 : Nat) (b15 : Nat) : IT := ⟨49, 142, [], fun g => .agg ([.int .i64 3, .int .i64 (-1), .int .i64 0, .int .i64 0, .int .i64 0, .int .i64 1, .int .i64 1, .int .i64 1, .int .i64 0, .int .i64 0, .int .i64 1, .int .i64 1, .bool false, .int .i64 0, .int .i64 0, .int .i64 0, .int .i64 0, .slice none 0 0, .int .i64 0, .int .i64 0, .int .i64 0, .int .i64 0, .slice none 0 0] : List Value).toArray, fun g => []⟩
theorem k22_142_ok (w0 : World) (b11 : Nat) (b12 : Nat) (b13 : Nat) (b14 : Nat) (b15 : Nat) : ILoc (k22_142 b11 b12 b13 b14 b15) ∧ IOk Try.prog 173 k22_ops w0 NoF [.own b15 (.cells (lowI.cells none 0).toArray 72 (0, 0)), .own b14 (.cells (markI.cells none 0).toArray 72 (0, 0)), .own b13 (.cells (badI.cells none 0).toArray 72 (0, 0)), .own b12 (.cells (placeI.cells none 0).toArray 72 (0, 0)), .own b11 (.cells pP.cells.toArray 70 (0, 0))] [(11, .pointer (some ⟨b11, 0, none⟩)), (12, .pointer (some ⟨b12, 0, none⟩)), (13, .pointer (some ⟨b13, 0, none⟩)), (14, .pointer (some ⟨b14, 0, none⟩)), (15, .pointer (some ⟨b15, 0, none⟩))] (k22_142 b11 b12 b13 b14 b15) [k22_141 b11 b12 b13 b14 b15] := by
  refine ⟨fun g g' hl => ⟨?_, ?_⟩, _, rfl, fun g h R LA e => ?_⟩
  · simp only [k22_142]
  · simp only [k22_142]
  subst e
  dsimp only [depF, depA, extF, k22_141, List.cons_append, List.nil_append, List.append_eq]
  repeat'(first|refine kv' ?_|apply jJ|refine jE' ?_|refine jp' ?_|(apply jc;kernel_rfl)|refine kg' ?_|refine kG' ?_|refine kB' fun _=>?_|refine kA' fun _=>?_|refine kK' fun _=>?_|refine kU' ?_|((first|refine kR' ?_ ?_|refine kQ' ?_ ?_);all_goals(intro hc;try simp only[hcs]at hc;try(exfalso;first|contradiction|omega))))
  exact At.item ⟨none, 0, 0, 0⟩ rfl (fun w h => h)
noncomputable def k22_143 (b11 : Nat) (b12 : Nat) (b13 : Nat) (b14 : Nat) (b15 : Nat) : IT := ⟨50, 143, [], fun g => .agg ([.int .i64 50, .int .i64 0, .int .i64 0, .int .i64 0, .int .i64 1, .int .i64 1, .int .i64 1, .int .i64 0, .int .i64 0, .int .i64 1, .int .i64 1, .bool false, .int .i64 0, .int .i64 0, .int .i64 0, .int .i64 0, .slice none 0 0, .int .i64 0, .int .i64 0, .int .i64 0, .int .i64 0] : List Value).toArray, fun g => []⟩
theorem k22_143_ok (w0 : World) (b11 : Nat) (b12 : Nat) (b13 : Nat) (b14 : Nat) (b15 : Nat) : ILoc (k22_143 b11 b12 b13 b14 b15) ∧ IOk Try.prog 173 k22_ops w0 NoF [.own b15 (.cells (lowI.cells none 0).toArray 72 (0, 0)), .own b14 (.cells (markI.cells none 0).toArray 72 (0, 0)), .own b13 (.cells (badI.cells none 0).toArray 72 (0, 0)), .own b12 (.cells (placeI.cells none 0).toArray 72 (0, 0)), .own b11 (.cells pP.cells.toArray 70 (0, 0))] [(11, .pointer (some ⟨b11, 0, none⟩)), (12, .pointer (some ⟨b12, 0, none⟩)), (13, .pointer (some ⟨b13, 0, none⟩)), (14, .pointer (some ⟨b14, 0, none⟩)), (15, .pointer (some ⟨b15, 0, none⟩))] (k22_143 b11 b12 b13 b14 b15) [] := by
  refine ⟨fun g g' hl => ⟨?_, ?_⟩, _, rfl, fun g h R LA e => ?_⟩
  · simp only [k22_143]
  · simp only [k22_143]
  subst e
  dsimp only [depF, depA, extF, List.cons_append, List.nil_append, List.append_eq]
  repeat'(first|refine kv' ?_|apply jJ|refine jE' ?_|refine jp' ?_|(apply jc;kernel_rfl)|refine kg' ?_|refine kG' ?_|refine kB' fun _=>?_|refine kA' fun _=>?_|refine kK' fun _=>?_|refine kU' ?_|(apply kq; (· exact rfl); (· intro w1 h1; exact CallsTo.q (g33 50 w1) h1))|((first|refine kR' ?_ ?_|refine kQ' ?_ ?_);all_goals(intro hc;try simp only[hcs]at hc;try(exfalso;first|contradiction|omega))))
  exact At.item ⟨none, 0, 0, 0⟩ rfl (fun w h => h)
noncomputable def k22_144 (b11 : Nat) (b12 : Nat) (b13 : Nat) (b14 : Nat) (b15 : Nat) : IT := ⟨51, 144, [], fun g => .agg ([.int .i64 3, .int .i64 50, .int .i64 0, .int .i64 0, .int .i64 0, .int .i64 1, .int .i64 1, .int .i64 1, .int .i64 0, .int .i64 0, .int .i64 1, .int .i64 1, .bool false, .int .i64 0, .int .i64 0, .int .i64 0, .int .i64 0, .slice none 0 0, .int .i64 0, .int .i64 0, .int .i64 0, .int .i64 0, .slice none 0 0] : List Value).toArray, fun g => []⟩
theorem k22_144_ok (w0 : World) (b11 : Nat) (b12 : Nat) (b13 : Nat) (b14 : Nat) (b15 : Nat) : ILoc (k22_144 b11 b12 b13 b14 b15) ∧ IOk Try.prog 173 k22_ops w0 NoF [.own b15 (.cells (lowI.cells none 0).toArray 72 (0, 0)), .own b14 (.cells (markI.cells none 0).toArray 72 (0, 0)), .own b13 (.cells (badI.cells none 0).toArray 72 (0, 0)), .own b12 (.cells (placeI.cells none 0).toArray 72 (0, 0)), .own b11 (.cells pP.cells.toArray 70 (0, 0))] [(11, .pointer (some ⟨b11, 0, none⟩)), (12, .pointer (some ⟨b12, 0, none⟩)), (13, .pointer (some ⟨b13, 0, none⟩)), (14, .pointer (some ⟨b14, 0, none⟩)), (15, .pointer (some ⟨b15, 0, none⟩))] (k22_144 b11 b12 b13 b14 b15) [k22_143 b11 b12 b13 b14 b15] := by
  refine ⟨fun g g' hl => ⟨?_, ?_⟩, _, rfl, fun g h R LA e => ?_⟩
  · simp only [k22_144]
  · simp only [k22_144]
  subst e
  dsimp only [depF, depA, extF, k22_143, List.cons_append, List.nil_append, List.append_eq]
  repeat'(first|refine kv' ?_|apply jJ|refine jE' ?_|refine jp' ?_|(apply jc;kernel_rfl)|refine kg' ?_|refine kG' ?_|refine kB' fun _=>?_|refine kA' fun _=>?_|refine kK' fun _=>?_|refine kU' ?_|((first|refine kR' ?_ ?_|refine kQ' ?_ ?_);all_goals(intro hc;try simp only[hcs]at hc;try(exfalso;first|contradiction|omega))))
  exact At.item ⟨none, 0, 0, 0⟩ rfl (fun w h => h)
noncomputable def k22_145 (b11 : Nat) (b12 : Nat) (b13 : Nat) (b14 : Nat) (b15 : Nat) : IT := ⟨52, 145, [], fun g => .agg ([.int .i64 49, .int .i64 0, .int .i64 0, .int .i64 0, .int .i64 1, .int .i64 1, .int .i64 1, .int .i64 0, .int .i64 0, .int .i64 1, .int .i64 1, .bool false, .int .i64 0, .int .i64 0, .int .i64 0, .int .i64 0, .slice none 0 0, .int .i64 0, .int .i64 0, .int .i64 0, .int .i64 0] : List Value).toArray, fun g => []⟩
theorem k22_145_ok (w0 : World) (b11 : Nat) (b12 : Nat) (b13 : Nat) (b14 : Nat) (b15 : Nat) : ILoc (k22_145 b11 b12 b13 b14 b15) ∧ IOk Try.prog 173 k22_ops w0 NoF [.own b15 (.cells (lowI.cells none 0).toArray 72 (0, 0)), .own b14 (.cells (markI.cells none 0).toArray 72 (0, 0)), .own b13 (.cells (badI.cells none 0).toArray 72 (0, 0)), .own b12 (.cells (placeI.cells none 0).toArray 72 (0, 0)), .own b11 (.cells pP.cells.toArray 70 (0, 0))] [(11, .pointer (some ⟨b11, 0, none⟩)), (12, .pointer (some ⟨b12, 0, none⟩)), (13, .pointer (some ⟨b13, 0, none⟩)), (14, .pointer (some ⟨b14, 0, none⟩)), (15, .pointer (some ⟨b15, 0, none⟩))] (k22_145 b11 b12 b13 b14 b15) [] := by
  refine ⟨fun g g' hl => ⟨?_, ?_⟩, _, rfl, fun g h R LA e => ?_⟩
  · simp only [k22_145]
  · simp only [k22_145]
  subst e
  dsimp only [depF, depA, extF, List.cons_append, List.nil_append, List.append_eq]
  repeat'(first|refine kv' ?_|apply jJ|refine jE' ?_|refine jp' ?_|(apply jc;kernel_rfl)|refine kg' ?_|refine kG' ?_|refine kB' fun _=>?_|refine kA' fun _=>?_|refine kK' fun _=>?_|refine kU' ?_|(apply kq; (· exact rfl); (· intro w1 h1; exact CallsTo.q (g33 49 w1) h1))|((first|refine kR' ?_ ?_|refine kQ' ?_ ?_);all_goals(intro hc;try simp only[hcs]at hc;try(exfalso;first|contradiction|omega))))
  exact At.item ⟨none, 0, 0, 0⟩ rfl (fun w h => h)
noncomputable def k22_146 (b11 : Nat) (b12 : Nat) (b13 : Nat) (b14 : Nat) (b15 : Nat) : IT := ⟨53, 146, [], fun g => .agg ([.int .i64 3, .int .i64 49, .int .i64 0, .int .i64 0, .int .i64 0, .int .i64 1, .int .i64 1, .int .i64 1, .int .i64 0, .int .i64 0, .int .i64 1, .int .i64 1, .bool false, .int .i64 0, .int .i64 0, .int .i64 0, .int .i64 0, .slice none 0 0, .int .i64 0, .int .i64 0, .int .i64 0, .int .i64 0, .slice none 0 0] : List Value).toArray, fun g => []⟩
theorem k22_146_ok (w0 : World) (b11 : Nat) (b12 : Nat) (b13 : Nat) (b14 : Nat) (b15 : Nat) : ILoc (k22_146 b11 b12 b13 b14 b15) ∧ IOk Try.prog 173 k22_ops w0 NoF [.own b15 (.cells (lowI.cells none 0).toArray 72 (0, 0)), .own b14 (.cells (markI.cells none 0).toArray 72 (0, 0)), .own b13 (.cells (badI.cells none 0).toArray 72 (0, 0)), .own b12 (.cells (placeI.cells none 0).toArray 72 (0, 0)), .own b11 (.cells pP.cells.toArray 70 (0, 0))] [(11, .pointer (some ⟨b11, 0, none⟩)), (12, .pointer (some ⟨b12, 0, none⟩)), (13, .pointer (some ⟨b13, 0, none⟩)), (14, .pointer (some ⟨b14, 0, none⟩)), (15, .pointer (some ⟨b15, 0, none⟩))] (k22_146 b11 b12 b13 b14 b15) [k22_145 b11 b12 b13 b14 b15] := by
  refine ⟨fun g g' hl => ⟨?_, ?_⟩, _, rfl, fun g h R LA e => ?_⟩
  · simp only [k22_146]
  · simp only [k22_146]
  subst e
  dsimp only [depF, depA, extF, k22_145, List.cons_append, List.nil_append, List.append_eq]
  repeat'(first|refine kv' ?_|apply jJ|refine jE' ?_|refine jp' ?_|(apply jc;kernel_rfl)|refine kg' ?_|refine kG' ?_|refine kB' fun _=>?_|refine kA' fun _=>?_|refine kK' fun _=>?_|refine kU' ?_|((first|refine kR' ?_ ?_|refine kQ' ?_ ?_);all_goals(intro hc;try simp only[hcs]at hc;try(exfalso;first|contradiction|omega))))
  exact At.item ⟨none, 0, 0, 0⟩ rfl (fun w h => h)
noncomputable def k22_147 (b11 : Nat) (b12 : Nat) (b13 : Nat) (b14 : Nat) (b15 : Nat) : IT := ⟨54, 147, [], fun g => .agg ([.int .i64 5, .int .i64 0, .int .i64 0, .int .i64 0, .int .i64 0, .int .i64 0, .int .i64 0, .int .i64 0, .int .i64 0, .int .i64 0, .int .i64 0, .int .i64 0, .bool false, .int .i64 0, .int .i64 0, .int .i64 0, .int .i64 0, .slice none 0 0, .int .i64 0, .int .i64 0, .int .i64 0, .int .i64 0, .slice none 0 0] : List Value).toArray, fun g => []⟩
theorem k22_147_ok (w0 : World) (b11 : Nat) (b12 : Nat) (b13 : Nat) (b14 : Nat) (b15 : Nat) : ILoc (k22_147 b11 b12 b13 b14 b15) ∧ IOk Try.prog 173 k22_ops w0 NoF [.own b15 (.cells (lowI.cells none 0).toArray 72 (0, 0)), .own b14 (.cells (markI.cells none 0).toArray 72 (0, 0)), .own b13 (.cells (badI.cells none 0).toArray 72 (0, 0)), .own b12 (.cells (placeI.cells none 0).toArray 72 (0, 0)), .own b11 (.cells pP.cells.toArray 70 (0, 0))] [(11, .pointer (some ⟨b11, 0, none⟩)), (12, .pointer (some ⟨b12, 0, none⟩)), (13, .pointer (some ⟨b13, 0, none⟩)), (14, .pointer (some ⟨b14, 0, none⟩)), (15, .pointer (some ⟨b15, 0, none⟩))] (k22_147 b11 b12 b13 b14 b15) [] := by
  refine ⟨fun g g' hl => ⟨?_, ?_⟩, _, rfl, fun g h R LA e => ?_⟩
  · simp only [k22_147]
  · simp only [k22_147]
  subst e
  dsimp only [depF, depA, extF, List.cons_append, List.nil_append, List.append_eq]
  repeat'(first|refine kv' ?_|apply jJ|refine jE' ?_|refine jp' ?_|(apply jc;kernel_rfl)|refine kg' ?_|refine kG' ?_|refine kB' fun _=>?_|refine kA' fun _=>?_|refine kK' fun _=>?_|refine kU' ?_|((first|refine kR' ?_ ?_|refine kQ' ?_ ?_);all_goals(intro hc;try simp only[hcs]at hc;try(exfalso;first|contradiction|omega))))
  exact At.item ⟨none, 0, 0, 0⟩ rfl (fun w h => h)
noncomputable def k22_148 (b11 : Nat) (b12 : Nat) (b13 : Nat) (b14 : Nat) (b15 : Nat) : IT := ⟨55, 148, [], fun g => .agg ([.int .i64 49, .int .i64 0, .int .i64 0, .int .i64 0, .int .i64 1, .int .i64 1, .int .i64 1, .int .i64 0, .int .i64 0, .int .i64 1, .int .i64 1, .bool false, .int .i64 0, .int .i64 0, .int .i64 0, .int .i64 0, .slice none 0 0, .int .i64 0, .int .i64 0, .int .i64 0, .int .i64 0] : List Value).toArray, fun g => []⟩
theorem k22_148_ok (w0 : World) (b11 : Nat) (b12 : Nat) (b13 : Nat) (b14 : Nat) (b15 : Nat) : ILoc (k22_148 b11 b12 b13 b14 b15) ∧ IOk Try.prog 173 k22_ops w0 NoF [.own b15 (.cells (lowI.cells none 0).toArray 72 (0, 0)), .own b14 (.cells (markI.cells none 0).toArray 72 (0, 0)), .own b13 (.cells (badI.cells none 0).toArray 72 (0, 0)), .own b12 (.cells (placeI.cells none 0).toArray 72 (0, 0)), .own b11 (.cells pP.cells.toArray 70 (0, 0))] [(11, .pointer (some ⟨b11, 0, none⟩)), (12, .pointer (some ⟨b12, 0, none⟩)), (13, .pointer (some ⟨b13, 0, none⟩)), (14, .pointer (some ⟨b14, 0, none⟩)), (15, .pointer (some ⟨b15, 0, none⟩))] (k22_148 b11 b12 b13 b14 b15) [] := by
  refine ⟨fun g g' hl => ⟨?_, ?_⟩, _, rfl, fun g h R LA e => ?_⟩
  · simp only [k22_148]
  · simp only [k22_148]
  subst e
  dsimp only [depF, depA, extF, List.cons_append, List.nil_append, List.append_eq]
  repeat'(first|refine kv' ?_|apply jJ|refine jE' ?_|refine jp' ?_|(apply jc;kernel_rfl)|refine kg' ?_|refine kG' ?_|refine kB' fun _=>?_|refine kA' fun _=>?_|refine kK' fun _=>?_|refine kU' ?_|(apply kq; (· exact rfl); (· intro w1 h1; exact CallsTo.q (g33 49 w1) h1))|((first|refine kR' ?_ ?_|refine kQ' ?_ ?_);all_goals(intro hc;try simp only[hcs]at hc;try(exfalso;first|contradiction|omega))))
  exact At.item ⟨none, 0, 0, 0⟩ rfl (fun w h => h)
noncomputable def k22_149 (b11 : Nat) (b12 : Nat) (b13 : Nat) (b14 : Nat) (b15 : Nat) : IT := ⟨56, 149, [], fun g => .agg ([.int .i64 3, .int .i64 49, .int .i64 0, .int .i64 0, .int .i64 0, .int .i64 1, .int .i64 1, .int .i64 1, .int .i64 0, .int .i64 0, .int .i64 1, .int .i64 1, .bool false, .int .i64 0, .int .i64 0, .int .i64 0, .int .i64 0, .slice none 0 0, .int .i64 0, .int .i64 0, .int .i64 0, .int .i64 0, .slice none 0 0] : List Value).toArray, fun g => []⟩
theorem k22_149_ok (w0 : World) (b11 : Nat) (b12 : Nat) (b13 : Nat) (b14 : Nat) (b15 : Nat) : ILoc (k22_149 b11 b12 b13 b14 b15) ∧ IOk Try.prog 173 k22_ops w0 NoF [.own b15 (.cells (lowI.cells none 0).toArray 72 (0, 0)), .own b14 (.cells (markI.cells none 0).toArray 72 (0, 0)), .own b13 (.cells (badI.cells none 0).toArray 72 (0, 0)), .own b12 (.cells (placeI.cells none 0).toArray 72 (0, 0)), .own b11 (.cells pP.cells.toArray 70 (0, 0))] [(11, .pointer (some ⟨b11, 0, none⟩)), (12, .pointer (some ⟨b12, 0, none⟩)), (13, .pointer (some ⟨b13, 0, none⟩)), (14, .pointer (some ⟨b14, 0, none⟩)), (15, .pointer (some ⟨b15, 0, none⟩))] (k22_149 b11 b12 b13 b14 b15) [k22_148 b11 b12 b13 b14 b15] := by
  refine ⟨fun g g' hl => ⟨?_, ?_⟩, _, rfl, fun g h R LA e => ?_⟩
  · simp only [k22_149]
  · simp only [k22_149]
  subst e
  dsimp only [depF, depA, extF, k22_148, List.cons_append, List.nil_append, List.append_eq]
  repeat'(first|refine kv' ?_|apply jJ|refine jE' ?_|refine jp' ?_|(apply jc;kernel_rfl)|refine kg' ?_|refine kG' ?_|refine kB' fun _=>?_|refine kA' fun _=>?_|refine kK' fun _=>?_|refine kU' ?_|((first|refine kR' ?_ ?_|refine kQ' ?_ ?_);all_goals(intro hc;try simp only[hcs]at hc;try(exfalso;first|contradiction|omega))))
  exact At.item ⟨none, 0, 0, 0⟩ rfl (fun w h => h)
noncomputable def k22_150 (b11 : Nat) (b12 : Nat) (b13 : Nat) (b14 : Nat) (b15 : Nat) : IT := ⟨57, 150, [], fun g => .agg ([.int .i64 (-1), .int .i64 0, .int .i64 0, .int .i64 0, .int .i64 1, .int .i64 1, .int .i64 1, .int .i64 0, .int .i64 0, .int .i64 1, .int .i64 1, .bool false, .int .i64 0, .int .i64 0, .int .i64 0, .int .i64 0, .slice none 0 0, .int .i64 0, .int .i64 0, .int .i64 0, .int .i64 0] : List Value).toArray, fun g => []⟩
theorem k22_150_ok (w0 : World) (b11 : Nat) (b12 : Nat) (b13 : Nat) (b14 : Nat) (b15 : Nat) : ILoc (k22_150 b11 b12 b13 b14 b15) ∧ IOk Try.prog 173 k22_ops w0 NoF [.own b15 (.cells (lowI.cells none 0).toArray 72 (0, 0)), .own b14 (.cells (markI.cells none 0).toArray 72 (0, 0)), .own b13 (.cells (badI.cells none 0).toArray 72 (0, 0)), .own b12 (.cells (placeI.cells none 0).toArray 72 (0, 0)), .own b11 (.cells pP.cells.toArray 70 (0, 0))] [(11, .pointer (some ⟨b11, 0, none⟩)), (12, .pointer (some ⟨b12, 0, none⟩)), (13, .pointer (some ⟨b13, 0, none⟩)), (14, .pointer (some ⟨b14, 0, none⟩)), (15, .pointer (some ⟨b15, 0, none⟩))] (k22_150 b11 b12 b13 b14 b15) [] := by
  refine ⟨fun g g' hl => ⟨?_, ?_⟩, _, rfl, fun g h R LA e => ?_⟩
  · simp only [k22_150]
  · simp only [k22_150]
  subst e
  dsimp only [depF, depA, extF, List.cons_append, List.nil_append, List.append_eq]
  repeat'(first|(apply LR.ev; (· apply Ev.load_agg_at (cs := (lowI.cells none 0)); (· exact rfl); (· exact rfl); (· intro w' hw' j v hj; exact Rd.cell0 (hw'.rd_of_blk (b := b15) (cs := (lowI.cells none 0)) memZ) hj)); (· exact rfl))|refine kv' ?_|apply jJ|refine jE' ?_|refine jp' ?_|(apply jc;kernel_rfl)|refine kg' ?_|refine kG' ?_|refine kB' fun _=>?_|refine kA' fun _=>?_|refine kK' fun _=>?_|refine kU' ?_|((first|refine kR' ?_ ?_|refine kQ' ?_ ?_);all_goals(intro hc;try simp only[hcs]at hc;try(exfalso;first|contradiction|omega))))
  exact At.item ⟨none, 0, 0, 0⟩ rfl (fun w h => h)
noncomputable def k22_151 (b11 : Nat) (b12 : Nat) (b13 : Nat) (b14 : Nat) (b15 : Nat) : IT := ⟨58, 151, [], fun g => .agg ([.int .i64 4, .int .i64 (-1), .int .i64 0, .int .i64 0, .int .i64 0, .int .i64 1, .int .i64 1, .int .i64 1, .int .i64 0, .int .i64 0, .int .i64 1, .int .i64 1, .bool false, .int .i64 0, .int .i64 0, .int .i64 0, .int .i64 0, .slice none 0 0, .int .i64 0, .int .i64 0, .int .i64 0, .int .i64 0, .slice none 0 0] : List Value).toArray, fun g => []⟩
theorem k22_151_ok (w0 : World) (b11 : Nat) (b12 : Nat) (b13 : Nat) (b14 : Nat) (b15 : Nat) : ILoc (k22_151 b11 b12 b13 b14 b15) ∧ IOk Try.prog 173 k22_ops w0 NoF [.own b15 (.cells (lowI.cells none 0).toArray 72 (0, 0)), .own b14 (.cells (markI.cells none 0).toArray 72 (0, 0)), .own b13 (.cells (badI.cells none 0).toArray 72 (0, 0)), .own b12 (.cells (placeI.cells none 0).toArray 72 (0, 0)), .own b11 (.cells pP.cells.toArray 70 (0, 0))] [(11, .pointer (some ⟨b11, 0, none⟩)), (12, .pointer (some ⟨b12, 0, none⟩)), (13, .pointer (some ⟨b13, 0, none⟩)), (14, .pointer (some ⟨b14, 0, none⟩)), (15, .pointer (some ⟨b15, 0, none⟩))] (k22_151 b11 b12 b13 b14 b15) [k22_150 b11 b12 b13 b14 b15] := by
  refine ⟨fun g g' hl => ⟨?_, ?_⟩, _, rfl, fun g h R LA e => ?_⟩
  · simp only [k22_151]
  · simp only [k22_151]
  subst e
  dsimp only [depF, depA, extF, k22_150, List.cons_append, List.nil_append, List.append_eq]
  repeat'(first|refine kv' ?_|apply jJ|refine jE' ?_|refine jp' ?_|(apply jc;kernel_rfl)|refine kg' ?_|refine kG' ?_|refine kB' fun _=>?_|refine kA' fun _=>?_|refine kK' fun _=>?_|refine kU' ?_|((first|refine kR' ?_ ?_|refine kQ' ?_ ?_);all_goals(intro hc;try simp only[hcs]at hc;try(exfalso;first|contradiction|omega))))
  exact At.item ⟨none, 0, 0, 0⟩ rfl (fun w h => h)
noncomputable def k22_152 (b11 : Nat) (b12 : Nat) (b13 : Nat) (b14 : Nat) (b15 : Nat) : IT := ⟨59, 152, [], fun g => .agg ([.int .i64 50, .int .i64 0, .int .i64 0, .int .i64 0, .int .i64 1, .int .i64 1, .int .i64 1, .int .i64 0, .int .i64 0, .int .i64 1, .int .i64 1, .bool false, .int .i64 0, .int .i64 0, .int .i64 0, .int .i64 0, .slice none 0 0, .int .i64 0, .int .i64 0, .int .i64 0, .int .i64 0] : List Value).toArray, fun g => []⟩
theorem k22_152_ok (w0 : World) (b11 : Nat) (b12 : Nat) (b13 : Nat) (b14 : Nat) (b15 : Nat) : ILoc (k22_152 b11 b12 b13 b14 b15) ∧ IOk Try.prog 173 k22_ops w0 NoF [.own b15 (.cells (lowI.cells none 0).toArray 72 (0, 0)), .own b14 (.cells (markI.cells none 0).toArray 72 (0, 0)), .own b13 (.cells (badI.cells none 0).toArray 72 (0, 0)), .own b12 (.cells (placeI.cells none 0).toArray 72 (0, 0)), .own b11 (.cells pP.cells.toArray 70 (0, 0))] [(11, .pointer (some ⟨b11, 0, none⟩)), (12, .pointer (some ⟨b12, 0, none⟩)), (13, .pointer (some ⟨b13, 0, none⟩)), (14, .pointer (some ⟨b14, 0, none⟩)), (15, .pointer (some ⟨b15, 0, none⟩))] (k22_152 b11 b12 b13 b14 b15) [] := by
  refine ⟨fun g g' hl => ⟨?_, ?_⟩, _, rfl, fun g h R LA e => ?_⟩
  · simp only [k22_152]
  · simp only [k22_152]
  subst e
  dsimp only [depF, depA, extF, List.cons_append, List.nil_append, List.append_eq]
  repeat'(first|refine kv' ?_|apply jJ|refine jE' ?_|refine jp' ?_|(apply jc;kernel_rfl)|refine kg' ?_|refine kG' ?_|refine kB' fun _=>?_|refine kA' fun _=>?_|refine kK' fun _=>?_|refine kU' ?_|(apply kq; (· exact rfl); (· intro w1 h1; exact CallsTo.q (g33 50 w1) h1))|((first|refine kR' ?_ ?_|refine kQ' ?_ ?_);all_goals(intro hc;try simp only[hcs]at hc;try(exfalso;first|contradiction|omega))))
  exact At.item ⟨none, 0, 0, 0⟩ rfl (fun w h => h)
noncomputable def k22_153 (b11 : Nat) (b12 : Nat) (b13 : Nat) (b14 : Nat) (b15 : Nat) : IT := ⟨60, 153, [], fun g => .agg ([.int .i64 2, .int .i64 50, .int .i64 0, .int .i64 0, .int .i64 0, .int .i64 1, .int .i64 1, .int .i64 1, .int .i64 0, .int .i64 0, .int .i64 1, .int .i64 1, .bool false, .int .i64 0, .int .i64 0, .int .i64 0, .int .i64 0, .slice none 0 0, .int .i64 0, .int .i64 0, .int .i64 0, .int .i64 0, .slice none 0 0] : List Value).toArray, fun g => []⟩
theorem k22_153_ok (w0 : World) (b11 : Nat) (b12 : Nat) (b13 : Nat) (b14 : Nat) (b15 : Nat) : ILoc (k22_153 b11 b12 b13 b14 b15) ∧ IOk Try.prog 173 k22_ops w0 NoF [.own b15 (.cells (lowI.cells none 0).toArray 72 (0, 0)), .own b14 (.cells (markI.cells none 0).toArray 72 (0, 0)), .own b13 (.cells (badI.cells none 0).toArray 72 (0, 0)), .own b12 (.cells (placeI.cells none 0).toArray 72 (0, 0)), .own b11 (.cells pP.cells.toArray 70 (0, 0))] [(11, .pointer (some ⟨b11, 0, none⟩)), (12, .pointer (some ⟨b12, 0, none⟩)), (13, .pointer (some ⟨b13, 0, none⟩)), (14, .pointer (some ⟨b14, 0, none⟩)), (15, .pointer (some ⟨b15, 0, none⟩))] (k22_153 b11 b12 b13 b14 b15) [k22_152 b11 b12 b13 b14 b15] := by
  refine ⟨fun g g' hl => ⟨?_, ?_⟩, _, rfl, fun g h R LA e => ?_⟩
  · simp only [k22_153]
  · simp only [k22_153]
  subst e
  dsimp only [depF, depA, extF, k22_152, List.cons_append, List.nil_append, List.append_eq]
  repeat'(first|refine kv' ?_|apply jJ|refine jE' ?_|refine jp' ?_|(apply jc;kernel_rfl)|refine kg' ?_|refine kG' ?_|refine kB' fun _=>?_|refine kA' fun _=>?_|refine kK' fun _=>?_|refine kU' ?_|((first|refine kR' ?_ ?_|refine kQ' ?_ ?_);all_goals(intro hc;try simp only[hcs]at hc;try(exfalso;first|contradiction|omega))))
  exact At.item ⟨none, 0, 0, 0⟩ rfl (fun w h => h)
noncomputable def k22_154 (b11 : Nat) (b12 : Nat) (b13 : Nat) (b14 : Nat) (b15 : Nat) : IT := ⟨61, 154, [117, 122, 154], fun g => .slice (some ⟨(g 154).b, 0, none⟩) 28 28, fun g => [.own (g 154).b (.cells ([.int .i64 0, .int .i64 5, .int .i64 0, .int .i64 0, .int .i64 0, .int .i64 1, .int .i64 1, .int .i64 1, .int .i64 0, .int .i64 0, .int .i64 1, .int .i64 1, .bool false, .int .i64 0, .int .i64 0, .int .i64 0, .int .i64 0, .slice none 0 0, .int .i64 0, .int .i64 0, .int .i64 0, .int .i64 0, .slice none 0 0, .int .i64 0, .int .i64 5, .int .i64 0, .int .i64 0, .int .i64 0, .int .i64 1, .int .i64 1, .int .i64 1, .int .i64 0, .int .i64 0, .int .i64 1, .int .i64 1, .bool false, .int .i64 0, .int .i64 0, .int .i64 0, .int .i64 0, .slice none 0 0, .int .i64 0, .int .i64 0, .int .i64 0, .int .i64 0, .slice none 0 0, .int .i64 2, .int .i64 9, .int .i64 0, .int .i64 0, .int .i64 0, .int .i64 1, .int .i64 1, .int .i64 1, .int .i64 0, .int .i64 0, .int .i64 1, .int .i64 1, .bool false, .int .i64 0, .int .i64 0, .int .i64 0, .int .i64 0, .slice none 0 0, .int .i64 0, .int .i64 0, .int .i64 0, .int .i64 0, .slice none 0 0, .int .i64 3, .int .i64 6, .int .i64 0, .int .i64 0, .int .i64 0, .int .i64 1, .int .i64 1, .int .i64 1, .int .i64 0, .int .i64 0, .int .i64 1, .int .i64 1, .bool false, .int .i64 0, .int .i64 0, .int .i64 0, .int .i64 0, .slice none 0 0, .int .i64 0, .int .i64 0, .int .i64 0, .int .i64 0, .slice none 0 0, .int .i64 1, .int .i64 8, .int .i64 0, .int .i64 0, .int .i64 0, .int .i64 1, .int .i64 1, .int .i64 1, .int .i64 0, .int .i64 0, .int .i64 1, .int .i64 1, .bool false, .int .i64 0, .int .i64 0, .int .i64 0, .int .i64 0, .slice none 0 0, .int .i64 0, .int .i64 0, .int .i64 0, .int .i64 0, .slice none 0 0, .int .i64 3, .int .i64 6, .int .i64 0, .int .i64 0, .int .i64 0, .int .i64 1, .int .i64 1, .int .i64 1, .int .i64 0, .int .i64 0, .int .i64 1, .int .i64 1, .bool false, .int .i64 0, .int .i64 0, .int .i64 0, .int .i64 0, .slice none 0 0, .int .i64 0, .int .i64 0, .int .i64 0, .int .i64 0, .slice none 0 0, .int .i64 3, .int .i64 7, .int .i64 0, .int .i64 0, .int .i64 0, .int .i64 1, .int .i64 1, .int .i64 1, .int .i64 0, .int .i64 0, .int .i64 1, .int .i64 1, .bool false, .int .i64 0, .int .i64 0, .int .i64 0, .int .i64 0, .slice none 0 0, .int .i64 0, .int .i64 0, .int .i64 0, .int .i64 0, .slice none 0 0, .int .i64 2, .int .i64 7, .int .i64 0, .int .i64 0, .int .i64 0, .int .i64 1, .int .i64 1, .int .i64 1, .int .i64 0, .int .i64 0, .int .i64 1, .int .i64 1, .bool false, .int .i64 0, .int .i64 0, .int .i64 0, .int .i64 0, .slice none 0 0, .int .i64 0, .int .i64 0, .int .i64 0, .int .i64 0, .slice none 0 0, .int .i64 2, .int .i64 9, .int .i64 0, .int .i64 0, .int .i64 0, .int .i64 1, .int .i64 1, .int .i64 1, .int .i64 0, .int .i64 0, .int .i64 1, .int .i64 1, .bool false, .int .i64 0, .int .i64 0, .int .i64 0, .int .i64 0, .slice none 0 0, .int .i64 0, .int .i64 0, .int .i64 0, .int .i64 0, .slice none 0 0, .int .i64 4, .int .i64 20, .int .i64 0, .int .i64 0, .int .i64 0, .int .i64 1, .int .i64 1, .int .i64 1, .int .i64 0, .int .i64 0, .int .i64 1, .int .i64 1, .bool false, .int .i64 0, .int .i64 0, .int .i64 0, .int .i64 0, .slice none 0 0, .int .i64 0, .int .i64 0, .int .i64 0, .int .i64 0, .slice none 0 0, .int .i64 0, .int .i64 19, .int .i64 0, .int .i64 0, .int .i64 0, .int .i64 1, .int .i64 1, .int .i64 1, .int .i64 0, .int .i64 0, .int .i64 1, .int .i64 1, .bool false, .int .i64 0, .int .i64 0, .int .i64 0, .int .i64 0, .slice none 0 0, .int .i64 0, .int .i64 0, .int .i64 0, .int .i64 0, .slice none 0 0, .int .i64 4, .int .i64 2, .int .i64 0, .int .i64 0, .int .i64 0, .int .i64 1, .int .i64 1, .int .i64 1, .int .i64 0, .int .i64 0, .int .i64 1, .int .i64 1, .bool false, .int .i64 0, .int .i64 0, .int .i64 0, .int .i64 0, .slice none 0 0, .int .i64 0, .int .i64 0, .int .i64 0, .int .i64 0, .slice (some ⟨(g 117).b, 0, none⟩) 1 1, .int .i64 4, .int .i64 25, .int .i64 0, .int .i64 0, .int .i64 0, .int .i64 1, .int .i64 1, .int .i64 1, .int .i64 0, .int .i64 0, .int .i64 1, .int .i64 1, .bool false, .int .i64 0, .int .i64 0, .int .i64 0, .int .i64 0, .slice none 0 0, .int .i64 0, .int .i64 0, .int .i64 0, .int .i64 0, .slice (some ⟨(g 122).b, 0, none⟩) 2 2, .int .i64 0, .int .i64 30, .int .i64 0, .int .i64 0, .int .i64 0, .int .i64 0, .int .i64 0, .int .i64 0, .int .i64 0, .int .i64 0, .int .i64 0, .int .i64 0, .bool false, .int .i64 0, .int .i64 0, .int .i64 0, .int .i64 0, .slice none 0 0, .int .i64 1, .int .i64 3, .int .i64 2, .int .i64 6, .slice none 0 0, .int .i64 0, .int .i64 31, .int .i64 0, .int .i64 0, .int .i64 0, .int .i64 1, .int .i64 1, .int .i64 1, .int .i64 0, .int .i64 0, .int .i64 1, .int .i64 0, .bool false, .int .i64 0, .int .i64 0, .int .i64 0, .int .i64 0, .slice none 0 0, .int .i64 0, .int .i64 0, .int .i64 0, .int .i64 0, .slice none 0 0, .int .i64 0, .int .i64 32, .int .i64 0, .int .i64 0, .int .i64 0, .int .i64 2, .int .i64 1, .int .i64 0, .int .i64 0, .int .i64 0, .int .i64 0, .int .i64 0, .bool false, .int .i64 0, .int .i64 0, .int .i64 0, .int .i64 0, .slice none 0 0, .int .i64 0, .int .i64 0, .int .i64 0, .int .i64 0, .slice none 0 0, .int .i64 0, .int .i64 (-1), .int .i64 0, .int .i64 0, .int .i64 0, .int .i64 1, .int .i64 1, .int .i64 1, .int .i64 0, .int .i64 0, .int .i64 1, .int .i64 1, .bool false, .int .i64 0, .int .i64 0, .int .i64 0, .int .i64 0, .slice none 0 0, .int .i64 0, .int .i64 0, .int .i64 0, .int .i64 0, .slice none 0 0, .int .i64 0, .int .i64 40, .int .i64 0, .int .i64 0, .int .i64 0, .int .i64 0, .int .i64 0, .int .i64 0, .int .i64 0, .int .i64 0, .int .i64 0, .int .i64 0, .bool false, .int .i64 0, .int .i64 0, .int .i64 0, .int .i64 0, .slice none 0 0, .int .i64 0, .int .i64 0, .int .i64 0, .int .i64 0, .slice none 0 0, .int .i64 1, .int .i64 (-1), .int .i64 0, .int .i64 0, .int .i64 0, .int .i64 1, .int .i64 1, .int .i64 1, .int .i64 0, .int .i64 0, .int .i64 1, .int .i64 1, .bool false, .int .i64 0, .int .i64 0, .int .i64 0, .int .i64 0, .slice none 0 0, .int .i64 0, .int .i64 0, .int .i64 0, .int .i64 0, .slice none 0 0, .int .i64 1, .int .i64 50, .int .i64 0, .int .i64 0, .int .i64 0, .int .i64 1, .int .i64 1, .int .i64 1, .int .i64 0, .int .i64 0, .int .i64 1, .int .i64 1, .bool false, .int .i64 0, .int .i64 0, .int .i64 0, .int .i64 0, .slice none 0 0, .int .i64 0, .int .i64 0, .int .i64 0, .int .i64 0, .slice none 0 0, .int .i64 2, .int .i64 (-1), .int .i64 0, .int .i64 0, .int .i64 0, .int .i64 1, .int .i64 1, .int .i64 1, .int .i64 0, .int .i64 0, .int .i64 1, .int .i64 1, .bool false, .int .i64 0, .int .i64 0, .int .i64 0, .int .i64 0, .slice none 0 0, .int .i64 0, .int .i64 0, .int .i64 0, .int .i64 0, .slice none 0 0, .int .i64 3, .int .i64 (-1), .int .i64 0, .int .i64 0, .int .i64 0, .int .i64 1, .int .i64 1, .int .i64 1, .int .i64 0, .int .i64 0, .int .i64 1, .int .i64 1, .bool false, .int .i64 0, .int .i64 0, .int .i64 0, .int .i64 0, .slice none 0 0, .int .i64 0, .int .i64 0, .int .i64 0, .int .i64 0, .slice none 0 0, .int .i64 3, .int .i64 50, .int .i64 0, .int .i64 0, .int .i64 0, .int .i64 1, .int .i64 1, .int .i64 1, .int .i64 0, .int .i64 0, .int .i64 1, .int .i64 1, .bool false, .int .i64 0, .int .i64 0, .int .i64 0, .int .i64 0, .slice none 0 0, .int .i64 0, .int .i64 0, .int .i64 0, .int .i64 0, .slice none 0 0, .int .i64 3, .int .i64 49, .int .i64 0, .int .i64 0, .int .i64 0, .int .i64 1, .int .i64 1, .int .i64 1, .int .i64 0, .int .i64 0, .int .i64 1, .int .i64 1, .bool false, .int .i64 0, .int .i64 0, .int .i64 0, .int .i64 0, .slice none 0 0, .int .i64 0, .int .i64 0, .int .i64 0, .int .i64 0, .slice none 0 0, .int .i64 5, .int .i64 0, .int .i64 0, .int .i64 0, .int .i64 0, .int .i64 0, .int .i64 0, .int .i64 0, .int .i64 0, .int .i64 0, .int .i64 0, .int .i64 0, .bool false, .int .i64 0, .int .i64 0, .int .i64 0, .int .i64 0, .slice none 0 0, .int .i64 0, .int .i64 0, .int .i64 0, .int .i64 0, .slice none 0 0, .int .i64 3, .int .i64 49, .int .i64 0, .int .i64 0, .int .i64 0, .int .i64 1, .int .i64 1, .int .i64 1, .int .i64 0, .int .i64 0, .int .i64 1, .int .i64 1, .bool false, .int .i64 0, .int .i64 0, .int .i64 0, .int .i64 0, .slice none 0 0, .int .i64 0, .int .i64 0, .int .i64 0, .int .i64 0, .slice none 0 0, .int .i64 4, .int .i64 (-1), .int .i64 0, .int .i64 0, .int .i64 0, .int .i64 1, .int .i64 1, .int .i64 1, .int .i64 0, .int .i64 0, .int .i64 1, .int .i64 1, .bool false, .int .i64 0, .int .i64 0, .int .i64 0, .int .i64 0, .slice none 0 0, .int .i64 0, .int .i64 0, .int .i64 0, .int .i64 0, .slice none 0 0, .int .i64 2, .int .i64 50, .int .i64 0, .int .i64 0, .int .i64 0, .int .i64 1, .int .i64 1, .int .i64 1, .int .i64 0, .int .i64 0, .int .i64 1, .int .i64 1, .bool false, .int .i64 0, .int .i64 0, .int .i64 0, .int .i64 0, .slice none 0 0, .int .i64 0, .int .i64 0, .int .i64 0, .int .i64 0, .slice none 0 0] : List Value).toArray 87 (0, 0))]⟩
theorem k22_154_ok (w0 : World) (b11 : Nat) (b12 : Nat) (b13 : Nat) (b14 : Nat) (b15 : Nat) : ILoc (k22_154 b11 b12 b13 b14 b15) ∧ IOk Try.prog 173 k22_ops w0 NoF [.own b15 (.cells (lowI.cells none 0).toArray 72 (0, 0)), .own b14 (.cells (markI.cells none 0).toArray 72 (0, 0)), .own b13 (.cells (badI.cells none 0).toArray 72 (0, 0)), .own b12 (.cells (placeI.cells none 0).toArray 72 (0, 0)), .own b11 (.cells pP.cells.toArray 70 (0, 0))] [(11, .pointer (some ⟨b11, 0, none⟩)), (12, .pointer (some ⟨b12, 0, none⟩)), (13, .pointer (some ⟨b13, 0, none⟩)), (14, .pointer (some ⟨b14, 0, none⟩)), (15, .pointer (some ⟨b15, 0, none⟩))] (k22_154 b11 b12 b13 b14 b15) [k22_94 b11 b12 b13 b14 b15, k22_96 b11 b12 b13 b14 b15, k22_98 b11 b12 b13 b14 b15, k22_100 b11 b12 b13 b14 b15, k22_102 b11 b12 b13 b14 b15, k22_104 b11 b12 b13 b14 b15, k22_106 b11 b12 b13 b14 b15, k22_108 b11 b12 b13 b14 b15, k22_110 b11 b12 b13 b14 b15, k22_112 b11 b12 b13 b14 b15, k22_114 b11 b12 b13 b14 b15, k22_118 b11 b12 b13 b14 b15, k22_123 b11 b12 b13 b14 b15, k22_125 b11 b12 b13 b14 b15, k22_127 b11 b12 b13 b14 b15, k22_129 b11 b12 b13 b14 b15, k22_131 b11 b12 b13 b14 b15, k22_134 b11 b12 b13 b14 b15, k22_136 b11 b12 b13 b14 b15, k22_138 b11 b12 b13 b14 b15, k22_140 b11 b12 b13 b14 b15, k22_142 b11 b12 b13 b14 b15, k22_144 b11 b12 b13 b14 b15, k22_146 b11 b12 b13 b14 b15, k22_147 b11 b12 b13 b14 b15, k22_149 b11 b12 b13 b14 b15, k22_151 b11 b12 b13 b14 b15, k22_153 b11 b12 b13 b14 b15] := by
  refine ⟨fun g g' hl => ⟨?_, ?_⟩, _, rfl, fun g h R LA e => ?_⟩
  · simp only [k22_154, hl 117 (show 117 ∈ [117, 122, 154] by decide), hl 122 (show 122 ∈ [117, 122, 154] by decide), hl 154 (show 154 ∈ [117, 122, 154] by decide)]
  · simp only [k22_154, hl 117 (show 117 ∈ [117, 122, 154] by decide), hl 122 (show 122 ∈ [117, 122, 154] by decide), hl 154 (show 154 ∈ [117, 122, 154] by decide)]
  subst e
  dsimp only [depF, depA, extF, k22_94, k22_96, k22_98, k22_100, k22_102, k22_104, k22_106, k22_108, k22_110, k22_112, k22_114, k22_118, k22_123, k22_125, k22_127, k22_129, k22_131, k22_134, k22_136, k22_138, k22_140, k22_142, k22_144, k22_146, k22_147, k22_149, k22_151, k22_153, List.cons_append, List.nil_append, List.append_eq]
  repeat'(first|(refine kK' (T := 80) fun bk => ?_)|refine kv' ?_|apply jJ|refine jE' ?_|refine jp' ?_|(apply jc;kernel_rfl)|refine kg' ?_|refine kG' ?_|refine kB' fun _=>?_|refine kA' fun _=>?_|refine kK' fun _=>?_|refine kU' ?_|((first|refine kR' ?_ ?_|refine kQ' ?_ ?_);all_goals(intro hc;try simp only[hcs]at hc;try(exfalso;first|contradiction|omega))))
  exact At.item ⟨none, bk, 0, 0⟩ rfl (fun w h => h)
noncomputable def k22_16 (b11 : Nat) (b12 : Nat) (b13 : Nat) (b14 : Nat) (b15 : Nat) : IT := ⟨62, 16, [117, 122, 154], fun g => .slice (some ⟨(g 154).b, 0, none⟩) 28 28, fun g => []⟩
theorem k22_16_ok (w0 : World) (b11 : Nat) (b12 : Nat) (b13 : Nat) (b14 : Nat) (b15 : Nat) : ILoc (k22_16 b11 b12 b13 b14 b15) ∧ IOk Try.prog 173 k22_ops w0 NoF [.own b15 (.cells (lowI.cells none 0).toArray 72 (0, 0)), .own b14 (.cells (markI.cells none 0).toArray 72 (0, 0)), .own b13 (.cells (badI.cells none 0).toArray 72 (0, 0)), .own b12 (.cells (placeI.cells none 0).toArray 72 (0, 0)), .own b11 (.cells pP.cells.toArray 70 (0, 0))] [(11, .pointer (some ⟨b11, 0, none⟩)), (12, .pointer (some ⟨b12, 0, none⟩)), (13, .pointer (some ⟨b13, 0, none⟩)), (14, .pointer (some ⟨b14, 0, none⟩)), (15, .pointer (some ⟨b15, 0, none⟩))] (k22_16 b11 b12 b13 b14 b15) [k22_154 b11 b12 b13 b14 b15] := by
  refine ⟨fun g g' hl => ⟨?_, ?_⟩, _, rfl, fun g h R LA e => ?_⟩
  · simp only [k22_16, hl 117 (show 117 ∈ [117, 122, 154] by decide), hl 122 (show 122 ∈ [117, 122, 154] by decide), hl 154 (show 154 ∈ [117, 122, 154] by decide)]
  · simp only [k22_16, hl 117 (show 117 ∈ [117, 122, 154] by decide), hl 122 (show 122 ∈ [117, 122, 154] by decide), hl 154 (show 154 ∈ [117, 122, 154] by decide)]
  subst e
  dsimp only [depF, depA, extF, k22_154, List.cons_append, List.nil_append, List.append_eq]
  repeat'(first|refine kv' ?_|apply jJ|refine jE' ?_|refine jp' ?_|(apply jc;kernel_rfl)|refine kg' ?_|refine kG' ?_|refine kB' fun _=>?_|refine kA' fun _=>?_|refine kK' fun _=>?_|refine kU' ?_|((first|refine kR' ?_ ?_|refine kQ' ?_ ?_);all_goals(intro hc;try simp only[hcs]at hc;try(exfalso;first|contradiction|omega))))
  exact At.item ⟨none, 0, 0, 0⟩ rfl (fun w h => h)
set_option maxHeartbeats 8000000 in
theorem g11 (w : World) : CallsTo Try.prog 11 [] w fun v w' => v = .bool true ∧ Grew w w' := by
  refine go_in (n := 173) (St.refl _ NoF) Try.func11 rfl rfl ?_
  repeat'(first|refine kv' ?_|apply jJ|refine jE' ?_|refine jp' ?_|(apply jc;kernel_rfl)|refine kg' ?_|refine kG' ?_|refine kB' fun _=>?_|refine kA' fun _=>?_|refine kK' fun _=>?_|refine kU' ?_|((first|refine kR' ?_ ?_|refine kQ' ?_ ?_);all_goals(intro hc;try simp only[hcs]at hc;try(exfalso;first|contradiction|omega))))
  apply CW.loop [0, 1, 2, 3, 4, 5, 6, 7, 8, 9, 10, 17, 18, 19, 20, 21, 22, 23, 24, 25, 26, 27, 28, 29, 30, 31, 32, 33, 34, 35, 36, 37, 38, 39, 40, 41, 42, 43, 44, 45, 46, 47, 48, 49, 50, 51, 52, 53, 54, 55, 56, 57, 58, 59, 60, 61, 62, 63, 64, 65, 66, 67, 68, 69, 70, 71, 72, 73, 74, 75, 76, 77, 78] (fun s : Nat × Option Nat => s.1 ≤ 2) (fun s => [(1, Value.pointer (s.2.map fun b => ⟨b, 0, none⟩)), (2, Value.int .i64 (s.1 : Int))])
    (fun s => St w NoF (match s.2 with
      | none => []
      | some b => [.own b (.cells zG.cells.toArray 95 (0, 0))])) (fun s => 2 - s.1)
  · exact fun w' hw' => ⟨(0, none), by show 0 ≤ 2; omega, ⟨rfl, rfl, trivial⟩, hw'⟩
  rintro ⟨k, o⟩ g hk2
  simp only at hk2 ⊢
  by_cases hk : k < 2
  · cases o with
    | none =>
      repeat'(first|(apply kB; (· exact rfl); (· exact rfl); intro bn)|refine kv' ?_|apply jJ|refine jE' ?_|refine jp' ?_|(apply jc;kernel_rfl)|refine kg' ?_|refine kG' ?_|refine kB' fun _=>?_|refine kA' fun _=>?_|refine kK' fun _=>?_|refine kU' ?_|(apply kq; (· exact rfl); (· intro w1 h1; first | exact CallsTo.q (g33 1 w1) h1 | exact CallsTo.q (g35 1 w1) h1 | (have hq := CallsTo.q (g32z none (atI 1) none 0 w1 (Or.inl rfl)) h1; show CallsTo Try.prog 32 [.pointer none, (atI 1).val none 0] w1 _; exact hq) | (have hq := CallsTo.q (g37z none (kK 1) w1 (Or.inl rfl)) h1; show CallsTo Try.prog 37 [.pointer none, (kK 1).val] w1 _; exact hq) | (have hq := CallsTo.q (g36z none (kK 1) w1 (Or.inl rfl)) h1; show CallsTo Try.prog 36 [.pointer none, (kK 1).val] w1 _; exact hq) | (have hq := CallsTo.q (g34z none (kK 1) w1 (Or.inl rfl)) h1; show CallsTo Try.prog 34 [.pointer none, (kK 1).val] w1 _; exact hq) | (have hq := CallsTo.q (g38z none w1 (Or.inl rfl)) h1; show CallsTo Try.prog 38 [.pointer none] w1 _; exact hq) | (have hq := CallsTo.q (g42z none (kK 1) (.slice none 0 0) w1 (Or.inl rfl)) h1; show CallsTo Try.prog 42 [.pointer none, (kK 1).val, .slice none 0 0] w1 _; exact hq) | (have hq := CallsTo.q (g45z none w1 (Or.inl rfl)) h1; show CallsTo Try.prog 45 [.pointer none] w1 _; exact hq)))|(apply addX;(iterate 2 exact rfl);(iterate 2(first|omega|(dsimp only;omega)));exact rfl)|((first|refine kR' ?_ ?_|refine kQ' ?_ ?_);all_goals(intro hc;try simp only[hcs]at hc;try(exfalso;first|contradiction|omega))))
      apply At.again (k + 1, some bn)
      · exact hk
      · (repeat (first | exact Out.refl _ _ | exact Out.mix | (apply Out.upd; (· exact rfl)) | (apply Out.updL; (· exact rfl)) | (apply Out.mixs; (· exact rfl))))
      · exact ⟨rfl, rfl, trivial⟩
      · exact fun w' hw' => hw'.sub (L' := [.own bn (.cells zG.cells.toArray 95 (0, 0))]) (by repeat (first | exact List.Sublist.refl _ | exact List.nil_sublist _ | apply List.Sublist.cons_cons | apply List.Sublist.cons))
      · show 2 - (k + 1) < 2 - k
        omega
    | some b =>
      refine CW.sub (D := St w NoF [.own b (.cells zG.cells.toArray 95 (0, 0))]) ?_ (fun w' hw' => hw')
      repeat'(first|(apply kB; (· exact rfl); (· exact rfl); intro bn)|refine kv' ?_|apply jJ|refine jE' ?_|refine jp' ?_|(apply jc;kernel_rfl)|refine kg' ?_|refine kG' ?_|refine kB' fun _=>?_|refine kA' fun _=>?_|refine kK' fun _=>?_|refine kU' ?_|(apply kq; (· exact rfl); (· intro w1 h1; first | exact CallsTo.q (g33 1 w1) h1 | exact CallsTo.q (g35 1 w1) h1 | (have hq := CallsTo.q (g32z (some ⟨b, 0, none⟩) (atI 1) none 0 w1 (Or.inr ⟨b, rfl, h1.rd_of_blk memZ⟩)) h1; show CallsTo Try.prog 32 [.pointer (some ⟨b, 0, none⟩), (atI 1).val none 0] w1 _; exact hq) | (have hq := CallsTo.q (g37z (some ⟨b, 0, none⟩) (kK 1) w1 (Or.inr ⟨b, rfl, h1.rd_of_blk memZ⟩)) h1; show CallsTo Try.prog 37 [.pointer (some ⟨b, 0, none⟩), (kK 1).val] w1 _; exact hq) | (have hq := CallsTo.q (g36z (some ⟨b, 0, none⟩) (kK 1) w1 (Or.inr ⟨b, rfl, h1.rd_of_blk memZ⟩)) h1; show CallsTo Try.prog 36 [.pointer (some ⟨b, 0, none⟩), (kK 1).val] w1 _; exact hq) | (have hq := CallsTo.q (g34z (some ⟨b, 0, none⟩) (kK 1) w1 (Or.inr ⟨b, rfl, h1.rd_of_blk memZ⟩)) h1; show CallsTo Try.prog 34 [.pointer (some ⟨b, 0, none⟩), (kK 1).val] w1 _; exact hq) | (have hq := CallsTo.q (g38z (some ⟨b, 0, none⟩) w1 (Or.inr ⟨b, rfl, h1.rd_of_blk memZ⟩)) h1; show CallsTo Try.prog 38 [.pointer (some ⟨b, 0, none⟩)] w1 _; exact hq) | (have hq := CallsTo.q (g42z (some ⟨b, 0, none⟩) (kK 1) (.slice none 0 0) w1 (Or.inr ⟨b, rfl, h1.rd_of_blk memZ⟩)) h1; show CallsTo Try.prog 42 [.pointer (some ⟨b, 0, none⟩), (kK 1).val, .slice none 0 0] w1 _; exact hq) | (have hq := CallsTo.q (g45z (some ⟨b, 0, none⟩) w1 (Or.inr ⟨b, rfl, h1.rd_of_blk memZ⟩)) h1; show CallsTo Try.prog 45 [.pointer (some ⟨b, 0, none⟩)] w1 _; exact hq)))|(apply addX;(iterate 2 exact rfl);(iterate 2(first|omega|(dsimp only;omega)));exact rfl)|((first|refine kR' ?_ ?_|refine kQ' ?_ ?_);all_goals(intro hc;try simp only[hcs]at hc;try(exfalso;first|contradiction|omega))))
      apply At.again (k + 1, some bn)
      · exact hk
      · (repeat (first | exact Out.refl _ _ | exact Out.mix | (apply Out.upd; (· exact rfl)) | (apply Out.updL; (· exact rfl)) | (apply Out.mixs; (· exact rfl))))
      · exact ⟨rfl, rfl, trivial⟩
      · exact fun w' hw' => hw'.sub (L' := [.own bn (.cells zG.cells.toArray 95 (0, 0))]) (by repeat (first | exact List.Sublist.refl _ | exact List.nil_sublist _ | apply List.Sublist.cons_cons | apply List.Sublist.cons))
      · show 2 - (k + 1) < 2 - k
        omega
  · have : k = 2 := by omega
    subst this
    clear hk hk2
    refine CW.sub (D := St w NoF []) ?_ (fun w' hw' => by cases o <;> exact hw'.sub (List.nil_sublist _))
    repeat'(first|(apply CW.reg_heldC)|(apply kA; (· exact rfl); intro b11)|refine kv' ?_|apply jJ|refine jE' ?_|refine jp' ?_|(apply jc;kernel_rfl)|refine kg' ?_|refine kG' ?_|refine kB' fun _=>?_|refine kA' fun _=>?_|refine kK' fun _=>?_|refine kU' ?_|((first|refine kR' ?_ ?_|refine kQ' ?_ ?_);all_goals(intro hc;try simp only[hcs]at hc;try(exfalso;first|contradiction|omega))))
    apply DW.quiet [1]
    · decide +kernel
    · exact fun _ h => h
    repeat'(first|refine yv' ?_|refine uv' ?_|refine un' ?_|(refine us' ?_ ?_;all_goals(intro hc;try simp only[hcs]at hc;try(exfalso;first|contradiction|omega)))|apply QL.nil)
    all_goals (show DW _ _ _ _ _ _ _ _)
    apply DP.begin []
    refine DP.more (PI.lr 3 12 [] (fun b => .pointer (some ⟨b, 0, none⟩)) (fun b => [.own b (.cells [.int .i64 0, .int .i64 0, .int .i64 0, .int .i64 0, .int .i64 0, .int .i64 0, .int .i64 0, .int .i64 0, .int .i64 0, .int .i64 0, .int .i64 0, .bool false, .int .i64 0, .int .i64 0, .int .i64 0, .int .i64 0, .slice none 0 0, .int .i64 0, .int .i64 0, .int .i64 0, .int .i64 0].toArray 72 (0, 0))]) rfl (fun b x hx => by simp only [List.mem_singleton] at hx; subst hx; rfl) ?_) ?_
    · intro h w2
      apply kA
      · exact rfl
      intro b
      apply kM
      exact At.made rfl
    refine DP.go 0 [3] [12] [[]] rfl rfl rfl rfl (by decide +kernel) ⟨trivial, fun _ _ _ => trivial, trivial⟩ (fun A w' hA => St.sub hA (by simp only [List.cons_append, List.nil_append]; repeat (first | exact List.nil_sublist _ | exact List.Sublist.refl _ | apply List.Sublist.cons_cons | apply List.Sublist.cons))) ?_
    intro gg A LA hLA
    simp only [List.cons_append, List.nil_append] at hLA
    subst hLA
    apply kq
    · exact rfl
    · intro w1 h1
      exact CallsTo.q (g35 30 w1) h1
    apply kM
    apply At.pdone (ds := [12]) rfl
    · repeat (first | exact MixR.base _ | (apply MixR.upd; case hd => exact rfl))
    · repeat (first | exact Tl.nil | apply Tl.cons)
    · exact (fun A w' hA => St.sub hA (by simp only [List.cons_append, List.nil_append]; repeat (first | exact List.nil_sublist _ | exact List.Sublist.refl _ | apply List.Sublist.cons_cons | apply List.Sublist.cons)))
    refine DP.quiet [2] [3] [12] rfl rfl (by decide +kernel) (fun A w' hA => St.sub hA (by simp only [List.cons_append, List.nil_append]; repeat (first | exact List.nil_sublist _ | exact List.Sublist.refl _ | apply List.Sublist.cons_cons | apply List.Sublist.cons))) (fun gg => ?_)
    repeat'(first|refine yv' ?_|refine uv' ?_|refine un' ?_|(refine us' ?_ ?_;all_goals(intro hc;try simp only[hcs]at hc;try(exfalso;first|contradiction|omega)))|apply QL.nil)
    apply pq_done
    · repeat (first | exact MixR.base _ | (apply MixR.upd; case hd => exact rfl))
    refine DP.take 3 12 (fun b => .pointer (some ⟨b, 0, none⟩)) (fun b => [.own b (.cells [.int .i64 0, .int .i64 0, .int .i64 0, .int .i64 0, .int .i64 0, .int .i64 0, .int .i64 0, .int .i64 0, .int .i64 0, .int .i64 0, .int .i64 0, .bool false, .int .i64 0, .int .i64 0, .int .i64 0, .int .i64 0, .slice none 0 0, .int .i64 0, .int .i64 0, .int .i64 0, .int .i64 0].toArray 72 (0, 0))]) [] [12] [[]] rfl rfl rfl rfl rfl rfl rfl (by decide +kernel) ⟨trivial, fun _ _ _ => trivial, trivial⟩ (fun A w' hA => St.sub hA (by simp only [List.cons_append, List.nil_append]; repeat (first | exact List.nil_sublist _ | exact List.Sublist.refl _ | apply List.Sublist.cons_cons | apply List.Sublist.cons))) (fun b12 => ?_)
    refine DP.nil ?_
    refine DW.castL (by simp only [List.cons_append, List.nil_append]; exact rfl) ?_
    apply DW.loud 4
    · exact rfl
    · decide +kernel
    repeat'(first|refine kg' ?_|refine kG' ?_|apply kM|refine kv' ?_|refine kK' fun _=>?_|refine kU' ?_|refine kB' fun _=>?_|refine kA' fun _=>?_)
    refine At.stage_same (fun _ h => St.sub h (by repeat (first | exact List.Sublist.refl _ | exact List.nil_sublist _ | apply List.Sublist.cons_cons | apply List.Sublist.cons))) ?_
    apply DW.done_thn
    · decide +kernel
    repeat'(first|(apply CW.reg_held (fun _ => True))|refine kv' ?_|apply jJ|refine jE' ?_|refine jp' ?_|(apply jc;kernel_rfl)|refine kg' ?_|refine kG' ?_|refine kB' fun _=>?_|refine kA' fun _=>?_|refine kK' fun _=>?_|refine kU' ?_|(apply kq; (· exact rfl); (· intro w1 h1; first | exact CallsTo.q (g33 31 w1) h1 | exact CallsTo.q (g33 32 w1) h1 | exact CallsTo.q (g33 33 w1) h1))|((first|refine kR' ?_ ?_|refine kQ' ?_ ?_);all_goals(intro hc;try simp only[hcs]at hc;try(exfalso;first|contradiction|omega))))
    rename_i b13 b14 b15

    all_goals (try clear h1)
    show DW Try.prog 173 k22_ops _ [] _ _ (St w NoF [.own b15 (.cells (lowI.cells none 0).toArray 72 (0, 0)), .own b14 (.cells (markI.cells none 0).toArray 72 (0, 0)), .own b13 (.cells (badI.cells none 0).toArray 72 (0, 0)), .own b12 (.cells (placeI.cells none 0).toArray 72 (0, 0)), .own b11 (.cells pP.cells.toArray 70 (0, 0))])
    refine DW.crowd (N := [(0, 93, [], []), (1, 94, [], [0]), (2, 95, [], []), (3, 96, [], [2]), (4, 97, [], []), (5, 98, [], [4]), (6, 99, [], []), (7, 100, [], [6]), (8, 101, [], []), (9, 102, [], [8]), (10, 103, [], []), (11, 104, [], [10]), (12, 105, [], []), (13, 106, [], [12]), (14, 107, [], []), (15, 108, [], [14]), (16, 109, [], []), (17, 110, [], [16]), (18, 111, [], []), (19, 112, [], [18]), (20, 113, [], []), (21, 114, [], [20]), (22, 115, [], []), (23, 116, [], []), (24, 117, [117], [23]), (25, 118, [117], [22, 24]), (26, 119, [], []), (27, 120, [], []), (28, 121, [], []), (29, 122, [122], [27, 28]), (30, 123, [122], [26, 29]), (31, 124, [], []), (32, 125, [], [31]), (33, 126, [], []), (34, 127, [], [33]), (35, 128, [], []), (36, 129, [], [35]), (37, 130, [], []), (38, 131, [], [37]), (39, 132, [], []), (40, 133, [], [39]), (41, 134, [], [40]), (42, 135, [], []), (43, 136, [], [42]), (44, 137, [], []), (45, 138, [], [44]), (46, 139, [], []), (47, 140, [], [46]), (48, 141, [], []), (49, 142, [], [48]), (50, 143, [], []), (51, 144, [], [50]), (52, 145, [], []), (53, 146, [], [52]), (54, 147, [], []), (55, 148, [], []), (56, 149, [], [55]), (57, 150, [], []), (58, 151, [], [57]), (59, 152, [], []), (60, 153, [], [59]), (61, 154, [117, 122, 154], [1, 3, 5, 7, 9, 11, 13, 15, 17, 19, 21, 25, 30, 32, 34, 36, 38, 41, 43, 45, 47, 49, 51, 53, 54, 56, 58, 60]), (62, 16, [117, 122, 154], [61])]) [(k22_93 b11 b12 b13 b14 b15, []), (k22_94 b11 b12 b13 b14 b15, [0]), (k22_95 b11 b12 b13 b14 b15, []), (k22_96 b11 b12 b13 b14 b15, [2]), (k22_97 b11 b12 b13 b14 b15, []), (k22_98 b11 b12 b13 b14 b15, [4]), (k22_99 b11 b12 b13 b14 b15, []), (k22_100 b11 b12 b13 b14 b15, [6]), (k22_101 b11 b12 b13 b14 b15, []), (k22_102 b11 b12 b13 b14 b15, [8]), (k22_103 b11 b12 b13 b14 b15, []), (k22_104 b11 b12 b13 b14 b15, [10]), (k22_105 b11 b12 b13 b14 b15, []), (k22_106 b11 b12 b13 b14 b15, [12]), (k22_107 b11 b12 b13 b14 b15, []), (k22_108 b11 b12 b13 b14 b15, [14]), (k22_109 b11 b12 b13 b14 b15, []), (k22_110 b11 b12 b13 b14 b15, [16]), (k22_111 b11 b12 b13 b14 b15, []), (k22_112 b11 b12 b13 b14 b15, [18]), (k22_113 b11 b12 b13 b14 b15, []), (k22_114 b11 b12 b13 b14 b15, [20]), (k22_115 b11 b12 b13 b14 b15, []), (k22_116 b11 b12 b13 b14 b15, []), (k22_117 b11 b12 b13 b14 b15, [23]), (k22_118 b11 b12 b13 b14 b15, [22, 24]), (k22_119 b11 b12 b13 b14 b15, []), (k22_120 b11 b12 b13 b14 b15, []), (k22_121 b11 b12 b13 b14 b15, []), (k22_122 b11 b12 b13 b14 b15, [27, 28]), (k22_123 b11 b12 b13 b14 b15, [26, 29]), (k22_124 b11 b12 b13 b14 b15, []), (k22_125 b11 b12 b13 b14 b15, [31]), (k22_126 b11 b12 b13 b14 b15, []), (k22_127 b11 b12 b13 b14 b15, [33]), (k22_128 b11 b12 b13 b14 b15, []), (k22_129 b11 b12 b13 b14 b15, [35]), (k22_130 b11 b12 b13 b14 b15, []), (k22_131 b11 b12 b13 b14 b15, [37]), (k22_132 b11 b12 b13 b14 b15, []), (k22_133 b11 b12 b13 b14 b15, [39]), (k22_134 b11 b12 b13 b14 b15, [40]), (k22_135 b11 b12 b13 b14 b15, []), (k22_136 b11 b12 b13 b14 b15, [42]), (k22_137 b11 b12 b13 b14 b15, []), (k22_138 b11 b12 b13 b14 b15, [44]), (k22_139 b11 b12 b13 b14 b15, []), (k22_140 b11 b12 b13 b14 b15, [46]), (k22_141 b11 b12 b13 b14 b15, []), (k22_142 b11 b12 b13 b14 b15, [48]), (k22_143 b11 b12 b13 b14 b15, []), (k22_144 b11 b12 b13 b14 b15, [50]), (k22_145 b11 b12 b13 b14 b15, []), (k22_146 b11 b12 b13 b14 b15, [52]), (k22_147 b11 b12 b13 b14 b15, []), (k22_148 b11 b12 b13 b14 b15, []), (k22_149 b11 b12 b13 b14 b15, [55]), (k22_150 b11 b12 b13 b14 b15, []), (k22_151 b11 b12 b13 b14 b15, [57]), (k22_152 b11 b12 b13 b14 b15, []), (k22_153 b11 b12 b13 b14 b15, [59]), (k22_154 b11 b12 b13 b14 b15, [1, 3, 5, 7, 9, 11, 13, 15, 17, 19, 21, 25, 30, 32, 34, 36, 38, 41, 43, 45, 47, 49, 51, 53, 54, 56, 58, 60]), (k22_16 b11 b12 b13 b14 b15, [61])] [(11, .pointer (some ⟨b11, 0, none⟩)), (12, .pointer (some ⟨b12, 0, none⟩)), (13, .pointer (some ⟨b13, 0, none⟩)), (14, .pointer (some ⟨b14, 0, none⟩)), (15, .pointer (some ⟨b15, 0, none⟩))] rfl (show crowdB k22_ops [] [11, 12, 13, 14, 15] [(0, 93, [], []), (1, 94, [], [0]), (2, 95, [], []), (3, 96, [], [2]), (4, 97, [], []), (5, 98, [], [4]), (6, 99, [], []), (7, 100, [], [6]), (8, 101, [], []), (9, 102, [], [8]), (10, 103, [], []), (11, 104, [], [10]), (12, 105, [], []), (13, 106, [], [12]), (14, 107, [], []), (15, 108, [], [14]), (16, 109, [], []), (17, 110, [], [16]), (18, 111, [], []), (19, 112, [], [18]), (20, 113, [], []), (21, 114, [], [20]), (22, 115, [], []), (23, 116, [], []), (24, 117, [117], [23]), (25, 118, [117], [22, 24]), (26, 119, [], []), (27, 120, [], []), (28, 121, [], []), (29, 122, [122], [27, 28]), (30, 123, [122], [26, 29]), (31, 124, [], []), (32, 125, [], [31]), (33, 126, [], []), (34, 127, [], [33]), (35, 128, [], []), (36, 129, [], [35]), (37, 130, [], []), (38, 131, [], [37]), (39, 132, [], []), (40, 133, [], [39]), (41, 134, [], [40]), (42, 135, [], []), (43, 136, [], [42]), (44, 137, [], []), (45, 138, [], [44]), (46, 139, [], []), (47, 140, [], [46]), (48, 141, [], []), (49, 142, [], [48]), (50, 143, [], []), (51, 144, [], [50]), (52, 145, [], []), (53, 146, [], [52]), (54, 147, [], []), (55, 148, [], []), (56, 149, [], [55]), (57, 150, [], []), (58, 151, [], [57]), (59, 152, [], []), (60, 153, [], [59]), (61, 154, [117, 122, 154], [1, 3, 5, 7, 9, 11, 13, 15, 17, 19, 21, 25, 30, 32, 34, 36, 38, 41, 43, 45, 47, 49, 51, 53, 54, 56, 58, 60]), (62, 16, [117, 122, 154], [61])] = true by decide +kernel) (fun q hq => by simp only [List.mem_cons, List.not_mem_nil, or_false] at hq; rcases hq with rfl | rfl | rfl | rfl | rfl <;> rfl) ⟨k22_93_ok w b11 b12 b13 b14 b15, k22_94_ok w b11 b12 b13 b14 b15, k22_95_ok w b11 b12 b13 b14 b15, k22_96_ok w b11 b12 b13 b14 b15, k22_97_ok w b11 b12 b13 b14 b15, k22_98_ok w b11 b12 b13 b14 b15, k22_99_ok w b11 b12 b13 b14 b15, k22_100_ok w b11 b12 b13 b14 b15, k22_101_ok w b11 b12 b13 b14 b15, k22_102_ok w b11 b12 b13 b14 b15, k22_103_ok w b11 b12 b13 b14 b15, k22_104_ok w b11 b12 b13 b14 b15, k22_105_ok w b11 b12 b13 b14 b15, k22_106_ok w b11 b12 b13 b14 b15, k22_107_ok w b11 b12 b13 b14 b15, k22_108_ok w b11 b12 b13 b14 b15, k22_109_ok w b11 b12 b13 b14 b15, k22_110_ok w b11 b12 b13 b14 b15, k22_111_ok w b11 b12 b13 b14 b15, k22_112_ok w b11 b12 b13 b14 b15, k22_113_ok w b11 b12 b13 b14 b15, k22_114_ok w b11 b12 b13 b14 b15, k22_115_ok w b11 b12 b13 b14 b15, k22_116_ok w b11 b12 b13 b14 b15, k22_117_ok w b11 b12 b13 b14 b15, k22_118_ok w b11 b12 b13 b14 b15, k22_119_ok w b11 b12 b13 b14 b15, k22_120_ok w b11 b12 b13 b14 b15, k22_121_ok w b11 b12 b13 b14 b15, k22_122_ok w b11 b12 b13 b14 b15, k22_123_ok w b11 b12 b13 b14 b15, k22_124_ok w b11 b12 b13 b14 b15, k22_125_ok w b11 b12 b13 b14 b15, k22_126_ok w b11 b12 b13 b14 b15, k22_127_ok w b11 b12 b13 b14 b15, k22_128_ok w b11 b12 b13 b14 b15, k22_129_ok w b11 b12 b13 b14 b15, k22_130_ok w b11 b12 b13 b14 b15, k22_131_ok w b11 b12 b13 b14 b15, k22_132_ok w b11 b12 b13 b14 b15, k22_133_ok w b11 b12 b13 b14 b15, k22_134_ok w b11 b12 b13 b14 b15, k22_135_ok w b11 b12 b13 b14 b15, k22_136_ok w b11 b12 b13 b14 b15, k22_137_ok w b11 b12 b13 b14 b15, k22_138_ok w b11 b12 b13 b14 b15, k22_139_ok w b11 b12 b13 b14 b15, k22_140_ok w b11 b12 b13 b14 b15, k22_141_ok w b11 b12 b13 b14 b15, k22_142_ok w b11 b12 b13 b14 b15, k22_143_ok w b11 b12 b13 b14 b15, k22_144_ok w b11 b12 b13 b14 b15, k22_145_ok w b11 b12 b13 b14 b15, k22_146_ok w b11 b12 b13 b14 b15, k22_147_ok w b11 b12 b13 b14 b15, k22_148_ok w b11 b12 b13 b14 b15, k22_149_ok w b11 b12 b13 b14 b15, k22_150_ok w b11 b12 b13 b14 b15, k22_151_ok w b11 b12 b13 b14 b15, k22_152_ok w b11 b12 b13 b14 b15, k22_153_ok w b11 b12 b13 b14 b15, k22_154_ok w b11 b12 b13 b14 b15, k22_16_ok w b11 b12 b13 b14 b15, trivial⟩ (fun _ _ _ => trivial) fun g => ?_
    refine DW.done_thn (by decide +kernel) ?_
    refine CW.sub (D := St w NoF [.own (g 117).b (.cells (pcs [pP]).toArray 70 (0, 0)), .own (g 122).b (.cells (pcs [pP, pP]).toArray 70 (0, 0)), .own (g 154).b (.cells ((doos (g 117).b (g 122).b).flatMap DooA.row).toArray 87 (0, 0))]) ?_ (fun u hu => (show St w NoF [.own (g 117).b (.cells (pcs [pP]).toArray 70 (0, 0)), .own (g 122).b (.cells (pcs [pP, pP]).toArray 70 (0, 0)), .own (g 154).b (.cells ((doos (g 117).b (g 122).b).flatMap DooA.row).toArray 87 (0, 0)), .own b15 (.cells (lowI.cells none 0).toArray 72 (0, 0)), .own b14 (.cells (markI.cells none 0).toArray 72 (0, 0)), .own b13 (.cells (badI.cells none 0).toArray 72 (0, 0)), .own b12 (.cells (placeI.cells none 0).toArray 72 (0, 0)), .own b11 (.cells pP.cells.toArray 70 (0, 0))] u from hu).sub subZ)
    rw [upd_eta (t := 16) (v := .slice (some ⟨(g 154).b, 0, none⟩) 28 28) (f := depF g _ _) rfl]
    generalize depF g _ _ = fr
    generalize (g 117).b = b117
    generalize (g 122).b = b122
    generalize (g 154).b = bl
    repeat'(first|refine kv' ?_|apply jJ|refine jE' ?_|refine jp' ?_|(apply jc;kernel_rfl)|refine kg' ?_|refine kG' ?_|refine kB' fun _=>?_|refine kA' fun _=>?_|refine kK' fun _=>?_|refine kU' ?_|(apply kq; (· exact rfl); (· intro w1 h1; first | exact CallsTo.q (g30 w1) h1 | exact CallsTo.q (show CallsTo Try.prog 9 [.int .i64 4, .slice (some ⟨bl, 0, none⟩) 28 28] w1 _ from g9 4 (some ⟨bl, 0, none⟩) 28 (doos b117 b122) w1 (h1.rd_of_blk memZ) (doos_ok (h1.rd_of_blk memZ) (h1.rd_of_blk memZ)) (by show 28 ≤ 140737488351232; omega)) h1 | exact CallsTo.q (show CallsTo Try.prog 9 [.int .i64 0, .slice (some ⟨bl, 0, none⟩) 28 28] w1 _ from g9 0 (some ⟨bl, 0, none⟩) 28 (doos b117 b122) w1 (h1.rd_of_blk memZ) (doos_ok (h1.rd_of_blk memZ) (h1.rd_of_blk memZ)) (by show 28 ≤ 140737488351232; omega)) h1 | exact CallsTo.q (show CallsTo Try.prog 10 [.int .i64 1, .slice (some ⟨bl, 0, none⟩) 28 28] w1 _ from g10 1 (some ⟨bl, 0, none⟩) 28 (doos b117 b122) w1 (h1.rd_of_blk memZ) (doos_ok (h1.rd_of_blk memZ) (h1.rd_of_blk memZ)) (by show 28 ≤ 140737488351232; omega)) h1 | exact CallsTo.q (show CallsTo Try.prog 9 [.int .i64 9, .slice none 0 0] w1 _ from g9 9 none 0 [] w1 (Rd.nil _ _) (fun x hx => by cases hx) (by decide)) h1))|((first|refine kR' ?_ ?_|refine kQ' ?_ ?_);all_goals(intro hc;try simp only[hcs]at hc;try(exfalso;first|contradiction|omega))))
    (apply ret1; (· exact rfl); intro w' hS)
    exact ⟨rfl, hS.toKeep⟩
end Go.Proofs.Ytphcnaafhcfakaa

namespace Go.Proofs.Ytphcnaafhcfakaa
open Go.Hb Go.ChangeShapes Go.WideShapes
attribute [local irreducible] LR CW At Ev thn blk finK noG again CallsTo DW QL dnext

set_option maxHeartbeats 1000000 in
set_option maxRecDepth 100000 in
theorem gateNames_lifted (os : Os) (started : os.Started) (H : Type) (enc : TypeId × Value → H) :
    ReturnsInHanded {} Try.checked os 11 .any (Rows.gateNamesSpec.pre6 enc Try.prog Try.f11 Rows.gateNamesRow.domain false) (Rows.gateNamesSpec.post enc Try.prog Try.f11 false true false false) := by
  refine returnsInHanded_of_change_sized (C := Try.checked) (s := Rows.gateNamesSpec) own_knob started (by kernel_rfl) Try.func11
    (ChangeSpec.witness6 (enc := enc) (C := Try.checked) false ⟨#[], #[], []⟩ 12 (by kernel_rfl) (by kernel_rfl) (by kernel_rfl) (by kernel_rfl)) ?_
  intro W base args ds gs before hval hW hcnd hwt _
  have hW' := hW
  obtain ⟨p, q, hA0, hV, rfl, hfz, hnd⟩ := hW'
  obtain ⟨rfl, rfl⟩ := trodVars_none hV
  have hA : DataW.TrodAll enc Try.prog W 0 (fun _ => true) true Try.f11.params.toList args.toList ds p := hA0
  rw [Try.params11] at hA
  obtain ⟨hargs, rfl, rfl⟩ := trodAll_nil hA
  obtain rfl : args = #[] := by cases args; simp_all
  refine (g11 W).calls fun v W' ⟨hv, hg⟩ => ⟨v, rfl, ?_⟩
  subst hv
  exact law_post kids full_slices hW hg rfl rfl (by kernel_rfl) Try.underlying4 (by rw [Try.params11]; decide +kernel)

theorem gateNames_holds : Rows.GateNamesSaid :=
  OpenClaim.holds_of_wide 11 Try.f11 rfl rfl rfl rfl rfl rfl rfl ⟨rfl, rfl, rfl, rfl, rfl⟩ rfl rfl rfl rfl rfl (by kernel_rfl) Try.func11 (by kernel_rfl)
    (of_decide_eq_true (by kernel_rfl)) (by unfold Func.isWrapper; first | (rw [if_pos (by decide +kernel)]; kernel_rfl) | (rw [if_neg (by decide +kernel)]; exact ⟨rfl, rfl⟩))
    (fun os started H enc _ => gateNames_lifted os started H enc)
end Go.Proofs.Ytphcnaafhcfakaa
