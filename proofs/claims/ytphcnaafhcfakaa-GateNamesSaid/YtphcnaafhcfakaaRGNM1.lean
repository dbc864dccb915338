/-
  The readers of the layer word and of its reference: a number at the front.
-/
import Derived.WalkKit
import Derived.ProofKit
import Derived.BigQuiet
import Derived.Deep.QuietTactic
import Derived.Scope
import Derived.OrdersHeld
import Derived.Laws.MakeOwn
import Derived.MapKept
import Derived.ChangeStays
import Derived.ReadAgain
import Derived.RowKit3
import Derived.ChangeArms
import Derived.JoinedOf
import Derived.SizedLaws
import Derived.Test.YtphcnaafhcfakaaRows
import Derived.StillTail

set_option linter.unusedSimpArgs false
set_option linter.unusedVariables false
namespace Go.Hb

abbrev Frm := Nat → Value

def upd (f : Frm) (d : Nat) (v : Value) : Frm := fun t => bif Nat.beq t d then v else f t

def Frm.ev (f : Frm) : Operand → Value
  | .tmp t => f t
  | .const v => v
  | .global g => .pointer (some ⟨g, 0, none⟩)
  | .func g => .func (.func g) #[] #[]

theorem upd_same (f : Frm) (d : Nat) (v : Value) : upd f d v d = v := by
  simp only [upd, show Nat.beq d d = true from Nat.beq_refl d, cond_true]
theorem upd_ne (f : Frm) (d t : Nat) (v : Value) (h : t ≠ d) : upd f d v t = f t := by
  have hb : Nat.beq t d = false := by
    cases hx : Nat.beq t d with
    | false => rfl
    | true => exact (h (Nat.eq_of_beq_eq_true hx)).elim
  simp only [upd, hb, cond_false]

def Fits (n : Nat) (a : Act) (f : Frm) : Prop := a.defers = [] ∧ a.tmps.size = n ∧ ∀ t, a.tmps.getD t undef = f t

theorem Fits.eval {n : Nat} {a : Act} {f : Frm} (h : Fits n a f) : a.eval = f.ev := by
  funext x
  cases x with
  | tmp t => exact h.2.2 t
  | const v => rfl
  | global g => rfl
  | func g => rfl

theorem Fits.put {n : Nat} {a : Act} {f : Frm} {d : Nat} (v : Value) (h : Fits n a f) (hd : Nat.blt d n = true) : Fits n (a.put (some d) v) (upd f d v) := by
  obtain ⟨h1, h2, h3⟩ := h
  have hd' : d < a.tmps.size := by rw [h2]; exact Nat.le_of_ble_eq_true hd
  refine ⟨h1, by simp [Act.put, h2], fun t => ?_⟩
  have h3t := h3 t
  by_cases htd : t = d
  · subst htd
    rw [upd_same]
    simp [Act.put, Array.getD_eq_getD_getElem?, hd']
  · rw [upd_ne _ _ _ _ htd, ← h3t]
    simp only [Act.put, Array.getD_eq_getD_getElem?]
    rw [Array.getElem?_setIfInBounds_ne (by omega)]

theorem Fits.put_none {n : Nat} {a : Act} {f : Frm} (v : Value) (h : Fits n a f) : Fits n (a.put none v) f := h

abbrev Post := Exit → Frm → World → Prop

def lift (n : Nat) (Q : Post) : Exit → Act → World → Prop := fun e a w => ∃ f, Fits n a f ∧ Q e f w

def LW (P : Program) (n : Nat) (ops : List Oper) (l : List Oper) (Q : Post) (f : Frm) (C : World → Prop) : Prop :=
  ∀ w, C w → ∀ a, Fits n a f → wpList P ops.toArray (lift n Q) l a w

def CW (P : Program) (n : Nat) (c : Code) (Q : Post) (f : Frm) (C : World → Prop) : Prop :=
  ∀ w, C w → ∀ a, Fits n a f → c.wp P (lift n Q) a w

def At (Q : Post) (e : Exit) (f : Frm) (C : World → Prop) : Prop := ∀ w, C w → Q e f w

def thn (P : Program) (n : Nat) (y : Code) (Q : Post) : Post
  | .normal, f, w => CW P n y Q f (fun w' => w' = w)
  | e, f, w => Q e f w

def blk (id : Nat) (Q : Post) : Post
  | .exit j, f, w => bif Nat.beq j id then Q .normal f w else Q (.exit j) f w
  | e, f, w => Q e f w

section
variable {P : Program} {n : Nat} {Q : Post} {f : Frm} {C : World → Prop}

theorem CW.at {c : Code} (h : CW P n c Q f C) {w : World} (hw : C w) : CW P n c Q f (fun w' => w' = w) := fun _ e => e ▸ h w hw
theorem CW.sub {c : Code} {D : World → Prop} (h : CW P n c Q f D) (hs : ∀ w, C w → D w) : CW P n c Q f C := fun w hw => h w (hs w hw)
theorem LW.sub {ops l : List Oper} {D : World → Prop} (h : LW P n ops l Q f D) (hs : ∀ w, C w → D w) : LW P n ops l Q f C := fun w hw => h w (hs w hw)


theorem CW.seq {x y : Code} (h : CW P n x (thn P n y Q) f C) : CW P n (.seq x y) Q f C := by
  intro w hw a ha
  refine wp_seq (Code.wp_mono (fun e a' w' hq => ?_) (h w hw a ha))
  obtain ⟨f', hf', hq⟩ := hq
  cases e with
  | normal => exact hq w' rfl a' hf'
  | exit id => exact ⟨f', hf', hq⟩
  | goto l => exact ⟨f', hf', hq⟩
  | ret => exact ⟨f', hf', hq⟩
  | panic ch => exact ⟨f', hf', hq⟩
  | outgrown => exact ⟨f', hf', hq⟩

theorem At.thn {y : Code} (h : CW P n y Q f C) : At (Hb.thn P n y Q) .normal f C := fun _ hw => h.at hw
theorem At.blk {id : Nat} (h : At Q .normal f C) : At (Hb.blk id Q) .normal f C := h
theorem At.blk_here {id : Nat} (h : At Q .normal f C) : At (Hb.blk id Q) (.exit id) f C := fun w hw => by
  have := h w hw
  simpa only [Hb.blk, show Nat.beq id id = true from Nat.beq_refl id, cond_true] using this
theorem At.blk_other {id j : Nat} (hj : Nat.beq j id = false) (h : At Q (.exit j) f C) : At (Hb.blk id Q) (.exit j) f C := fun w hw => by
  have := h w hw
  simpa only [Hb.blk, hj, cond_false] using this

theorem CW.skip (h : At Q .normal f C) : CW P n .skip Q f C := fun w hw _ ha => wp_skip ⟨f, ha, h w hw⟩
theorem CW.ret (h : At Q .ret f C) : CW P n .ret Q f C := fun w hw _ ha => wp_ret ⟨f, ha, h w hw⟩
theorem CW.exit {id : Nat} (h : At Q (.exit id) f C) : CW P n (.exit id) Q f C := fun w hw _ ha => wp_exit ⟨f, ha, h w hw⟩

theorem CW.block {id : Nat} {c : Code} (h : CW P n c (blk id Q) f C) : CW P n (.block id c) Q f C := by
  intro w hw a ha
  refine wp_block (Code.wp_mono (fun e a' w' hq => ?_) (h w hw a ha))
  obtain ⟨f', hf', hq⟩ := hq
  cases e with
  | normal => exact ⟨f', hf', hq⟩
  | exit j =>
    simp only [Hb.blk] at hq
    simp only [Exit.inBlock]
    by_cases hj : j = id
    · subst hj
      simp only [show Nat.beq j j = true from Nat.beq_refl j, cond_true] at hq
      rw [if_pos rfl]; exact ⟨f', hf', hq⟩
    · have hb : Nat.beq j id = false := by
        cases hx : Nat.beq j id with
        | false => rfl
        | true => exact (hj (Nat.eq_of_beq_eq_true hx)).elim
      simp only [hb, cond_false] at hq
      rw [if_neg hj]; exact ⟨f', hf', hq⟩
  | goto l => exact ⟨f', hf', hq⟩
  | ret => exact ⟨f', hf', hq⟩
  | panic ch => exact ⟨f', hf', hq⟩
  | outgrown => exact ⟨f', hf', hq⟩

theorem CW.cond {c : Operand} {x y : Code} {b : Bool} (hb : f.ev c = .bool b) (ht : b = true → CW P n x Q f C) (hf : b = false → CW P n y Q f C) : CW P n (.cond c x y) Q f C := by
  intro w hw a ha
  have he : a.eval c = .bool b := by rw [ha.eval]; exact hb
  exact wp_cond_split he (fun h => ht h w hw a ha) (fun h => hf h w hw a ha)
theorem CW.cond_true {c : Operand} {x y : Code} (hb : f.ev c = .bool true) (ht : CW P n x Q f C) : CW P n (.cond c x y) Q f C :=
  CW.cond hb (fun _ => ht) (fun h => by cases h)
theorem CW.cond_false {c : Operand} {x y : Code} (hb : f.ev c = .bool false) (hf : CW P n y Q f C) : CW P n (.cond c x y) Q f C :=
  CW.cond hb (fun h => by cases h) (fun _ => hf)

theorem CW.region {id : Nat} {l : List Oper} (h : LW P n l l Q f C) : CW P n (.region id l.toArray false) Q f C :=
  fun w hw a ha => wp_region_lit (h w hw a ha)

def mix (M : List Nat) (g f : Frm) : Frm := fun t => bif M.contains t then g t else f t
def Has (f : Frm) : List (Nat × Value) → Prop
  | [] => True
  | p :: r => f p.1 = p.2 ∧ Has f r
def updL (f : Frm) : List (Nat × Value) → Frm
  | [] => f
  | p :: r => upd (updL f r) p.1 p.2
def Out (M : List Nat) (f g : Frm) : Prop := ∀ t, M.contains t = false → g t = f t
theorem Out.refl (M : List Nat) (f : Frm) : Out M f f := fun _ _ => rfl
theorem Out.upd {M : List Nat} {f g : Frm} {d : Nat} {v : Value} (hd : M.contains d = true) (h : Out M f g) : Out M f (upd g d v) := by
  intro t ht
  rw [upd_ne]
  · exact h t ht
  · intro e; subst e; rw [hd] at ht; cases ht
theorem Out.mix {M : List Nat} {f g : Frm} : Out M f (mix M g f) := by
  intro t ht; simp only [Hb.mix, ht, cond_false]
theorem Out.updL {M : List Nat} {f g : Frm} : ∀ {vs : List (Nat × Value)}, (vs.all fun p => M.contains p.1) = true → Out M f g → Out M f (updL g vs)
  | [], _, h => h
  | p :: r, hv, h => by
    simp only [List.all_cons, Bool.and_eq_true] at hv
    exact Out.upd hv.1 (Out.updL hv.2 h)
theorem updL_has {f g : Frm} : ∀ {vs : List (Nat × Value)}, Has f vs → (∀ t, (vs.any fun p => Nat.beq t p.1) = false → g t = f t) → updL g vs = f := by
  intro vs
  induction vs generalizing g with
  | nil => intro _ h; funext t; exact h t rfl
  | cons p r ih =>
    intro hh hg
    funext t
    simp only [updL]
    by_cases hp : t = p.1
    · subst hp; rw [upd_same]; exact hh.1.symm
    · rw [upd_ne _ _ _ _ hp]
      have hb : Nat.beq t p.1 = false := by
        cases hx : Nat.beq t p.1 with
        | false => rfl
        | true => exact (hp (Nat.eq_of_beq_eq_true hx)).elim
      -- g may part from f at p.1 alone
      have : updL (upd g p.1 (f p.1)) r = f := ih hh.2 (fun s hs => by
        by_cases hsp : s = p.1
        · subst hsp; rw [upd_same]
        · rw [upd_ne _ _ _ _ hsp]
          refine hg s ?_
          have hb' : Nat.beq s p.1 = false := by
            cases hx : Nat.beq s p.1 with
            | false => rfl
            | true => exact (hsp (Nat.eq_of_beq_eq_true hx)).elim
          simp [List.any_cons, hb', hs])
      have h2 : ∀ (r : List (Nat × Value)) (g h : Frm), (∀ s, s ≠ p.1 → g s = h s) → ∀ s, s ≠ p.1 → updL g r s = updL h r s := by
        intro r
        induction r with
        | nil => intro g h e; exact e
        | cons q r ih2 =>
          intro g h e s hs
          simp only [updL]
          by_cases hq : s = q.1
          · subst hq; rw [upd_same, upd_same]
          · rw [upd_ne _ _ _ _ hq, upd_ne _ _ _ _ hq]; exact ih2 g h e s hs
      rw [h2 r g (upd g p.1 (f p.1)) (fun s hs => (upd_ne _ _ _ _ hs).symm) t hp, this]

theorem frame_form {M : List Nat} {f g : Frm} {vs : List (Nat × Value)} (ho : Out M f g) (hh : Has g vs) : g = updL (mix M g f) vs := by
  refine (updL_has hh (fun t _ => ?_)).symm
  simp only [mix]
  cases hc : M.contains t with
  | true => rfl
  | false => exact (ho t hc).symm

def again {α : Type} (M : List Nat) (f : Frm) (I : α → Prop) (vs : α → List (Nat × Value)) (D : α → World → Prop) (μ : α → Nat) (i : α) (Q : Post) : Post
  | .normal, g, w => ∃ j, I j ∧ Out M f g ∧ Has g (vs j) ∧ D j w ∧ μ j < μ i
  | e, g, w => Q e g w

theorem CW.loop {α : Type} (M : List Nat) (I : α → Prop) (vs : α → List (Nat × Value)) (D : α → World → Prop) (μ : α → Nat) {c : Code}
    (start : ∀ w, C w → ∃ i, I i ∧ Has f (vs i) ∧ D i w)
    (round : ∀ i g, I i → CW P n c (again M f I vs D μ i Q) (updL (mix M g f) (vs i)) (D i)) : CW P n (.loop c) Q f C := by
  intro w hw a ha b k cs
  obtain ⟨i0, hI0, hv0, hD0⟩ := start w hw
  have key : ∀ m i g a' w', I i → μ i = m → Fits n a' g → Out M f g → Has g (vs i) → D i w' →
      ∃ e a₂ w₂, lift n Q e a₂ w₂ ∧ Arrives P (lone (b.at a' (.code c :: .inLoop c :: k)) cs w') b k cs e a₂ w₂ := by
    intro m
    induction m using Nat.strongRecOn with
    | _ m ih =>
      intro i g a' w' hI hm hfit ho hh hD
      obtain ⟨e, a₁, w₁, ⟨g₁, hfit₁, hq⟩, harr⟩ := round i g hI w' hD a' (by rw [← frame_form ho hh]; exact hfit) b (.inLoop c :: k) cs
      cases e with
      | normal =>
        obtain ⟨j, hI₁, ho₁, hh₁, hD₁, hlt⟩ := hq
        obtain ⟨e₂, a₂, w₂, hq₂, harr₂⟩ := ih (μ j) (hm ▸ hlt) j g₁ a₁ w₁ hI₁ rfl hfit₁ ho₁ hh₁ hD₁
        exact ⟨e₂, a₂, w₂, hq₂, .of_steps (Steps.trans harr (.one step_inLoop)) harr₂⟩
      | exit id => exact ⟨_, a₁, w₁, ⟨g₁, hfit₁, hq⟩, .pass (x := .inLoop c) rfl (fun _ _ => .inl (by simp)) harr⟩
      | goto l => exact ⟨_, a₁, w₁, ⟨g₁, hfit₁, hq⟩, .pass (x := .inLoop c) rfl (fun _ _ => .inl (by simp)) harr⟩
      | ret => exact ⟨_, a₁, w₁, ⟨g₁, hfit₁, hq⟩, .pass (x := .inLoop c) rfl (fun _ _ => .inl (by simp)) harr⟩
      | panic ch => exact ⟨_, a₁, w₁, ⟨g₁, hfit₁, hq⟩, .pass (x := .inLoop c) rfl (fun _ _ => .inl (by simp)) harr⟩
      | outgrown => exact ⟨_, a₁, w₁, ⟨g₁, hfit₁, hq⟩, .pass (x := .inLoop c) rfl (fun _ _ => .inl (by simp)) harr⟩
  obtain ⟨e, a', w', hq, harr⟩ := key (μ i0) i0 f a w hI0 rfl ha (Out.refl M f) hv0 hD0
  exact ⟨e, a', w', hq, .of_steps (.one step_loop) harr⟩
end
end Go.Hb

namespace Go.Hb

def Ev (P : Program) (C : World → Prop) (f : Frm) (op : Op) (T : TypeId) (v : Value) : Prop :=
  ∀ w, C w → ∀ (d : Option Tmp) (p : String) (af : Array Edge) (g : Option (Nat × Bool)), (execOp f.ev ⟨d, op, T, p, af, g⟩).run P w = .ok (.value v) w

def LR (m : Bool) (P : Program) (n : Nat) (ops l : List Oper) (Q : Post) (f : Frm) (C : World → Prop) : Prop :=
  match m with
  | false => LW P n ops l Q f C
  | true => ∀ a, Fits n a f → wpQuiet P ops.toArray C (fun a' => ∀ w', C w' → lift n Q .normal a' w') l a

theorem yielded_of {n : Nat} {a : Act} {f : Frm} (h : Fits n a f) {ops : List Oper} {j dj : Nat} (hj : (ops[j]?).bind (·.dst) = some dj) :
    yielded ops.toArray a.tmps j = (match f dj with | .bool b => some b | _ => none) := by
  unfold yielded
  rw [List.getElem?_toArray, hj]
  simp only [Option.bind_some]
  have := h.2.2 dj
  rw [Array.getD_eq_getD_getElem?] at this
  cases hx : a.tmps[dj]? with
  | none => rw [hx] at this; simp only [Option.getD_none] at this; rw [← this]; rfl
  | some v => rw [hx] at this; simp only [Option.getD_some] at this; rw [← this]; cases v <;> rfl

section
variable {m : Bool} {P : Program} {n : Nat} {ops rest : List Oper} {Q : Post} {f : Frm} {C : World → Prop} {op : Op} {T : TypeId} {p : String} {af : Array Edge} {d : Nat} {v : Value}

theorem LR.nil (h : At Q .normal f C) : LR m P n ops [] Q f C := by
  cases m with
  | false => exact fun w hw a ha => wpList_nil ⟨f, ha, h w hw⟩
  | true => exact fun a ha => wpQuiet_nil (fun w hw => ⟨f, ha, h w hw⟩)

theorem LR.nil_thn {y : Code} (h : CW P n y Q f C) : LR m P n ops [] (thn P n y Q) f C := LR.nil (At.thn h)

theorem LR.ev (he : Ev P C f op T v) (hd : Nat.blt d n = true) (k : LR m P n ops rest Q (upd f d v) C) : LR m P n ops (⟨some d, op, T, p, af, none⟩ :: rest) Q f C := by
  cases m with
  | false =>
    intro w hw a ha
    refine wpList_plain rfl fun K hK => ?_
    have hr := he w hw (some d) p af none
    rw [← ha.eval] at hr
    simp only [Oper.wp, hr, Oper.upon_value]
    exact hK _ _ (k w hw _ (ha.put v hd))
  | true =>
    intro a ha
    refine wpQuiet_step fun K hK => ?_
    simp only [Region.wanted, if_true]
    refine ⟨v, fun w hw => ?_, hK _ (k _ (ha.put v hd))⟩
    have hr := he w hw (some d) p af none
    rw [← ha.eval] at hr
    simp only [Oper.quietAt, hr, Oper.quietUpon]
    exact ⟨trivial, trivial⟩

theorem LR.guard_yes {dst : Option Tmp} {j dj : Nat} {b : Bool} (hj : (ops[j]?).bind (·.dst) = some dj) (hb : f dj = .bool b)
    (k : LR m P n ops (⟨dst, op, T, p, af, none⟩ :: rest) Q f C) : LR m P n ops (⟨dst, op, T, p, af, some (j, b)⟩ :: rest) Q f C := by
  have hw : ∀ a, Fits n a f → Region.wanted (⟨dst, op, T, p, af, some (j, b)⟩ : Oper) (yielded ops.toArray a.tmps) = true := by
    intro a ha
    simp only [Region.wanted]
    rw [yielded_of ha hj, hb]
    simp
  cases m with
  | false =>
    intro w hC a ha
    have := k w hC a ha
    simp only [wpList] at this ⊢
    rw [if_pos (by simp [Region.wanted])] at this
    rw [if_pos (hw a ha)]
    exact this
  | true =>
    intro a ha
    have := k a ha
    simp only [wpQuiet] at this ⊢
    rw [if_pos (by simp [Region.wanted])] at this
    rw [if_pos (hw a ha)]
    exact this

theorem LR.skip_of {j dj : Nat} {b : Bool} (hj : (ops[j]?).bind (·.dst) = some dj) (hb : (match f dj with | .bool b => some b | _ => none) ≠ some b) (hd : Nat.blt d n = true)
    (k : LR m P n ops rest Q (upd f d undef) C) : LR m P n ops (⟨some d, op, T, p, af, some (j, b)⟩ :: rest) Q f C := by
  have hw : ∀ a, Fits n a f → ¬ Region.wanted (⟨some d, op, T, p, af, some (j, b)⟩ : Oper) (yielded ops.toArray a.tmps) = true := by
    intro a ha
    simp only [Region.wanted]
    rw [yielded_of ha hj]
    simpa using hb
  cases m with
  | false =>
    intro w hC a ha
    simp only [wpList]
    rw [if_neg (hw a ha)]
    exact k w hC _ (ha.put undef hd)
  | true =>
    intro a ha
    simp only [wpQuiet]
    rw [if_neg (hw a ha)]
    exact k _ (ha.put undef hd)

theorem upd_self {f : Frm} {d : Nat} {v : Value} (h : f d = v) : upd f d v = f := by
  funext t
  by_cases ht : t = d
  · subst ht; rw [upd_same, h]
  · rw [upd_ne _ _ _ _ ht]

theorem LR.guard_split {op' : Op} {dst : Option Tmp} {j dj : Nat} {b c : Bool} (_hj : (ops[j]?).bind (·.dst) = some dj) (hb : f dj = .bool c)
    (yes : c = true → LR m P n ops (⟨dst, op', T, p, af, some (j, b)⟩ :: rest) Q (upd f dj (.bool true)) C)
    (no : c = false → LR m P n ops (⟨dst, op', T, p, af, some (j, b)⟩ :: rest) Q (upd f dj (.bool false)) C) :
    LR m P n ops (⟨dst, op', T, p, af, some (j, b)⟩ :: rest) Q f C := by
  cases c with
  | true => have := yes rfl; rwa [upd_self hb] at this
  | false => have := no rfl; rwa [upd_self hb] at this

class Own (P : Program) (g : FuncId) : Prop where
  enters : ∀ (args : Array Value) (w : World), (callFunc g args).run P w = .ok (.enter g args) w

def CallsTo (P : Program) (g : FuncId) (args : List Value) (w : World) (K : Value → World → Prop) : Prop :=
  Calls P g args.toArray w fun e w' => ∃ v, e = .returned v ∧ K v w'

theorem CallsTo.mono {g : FuncId} {args : List Value} {w : World} {K K' : Value → World → Prop} (h : CallsTo P g args w K) (hk : ∀ v w', K v w' → K' v w') : CallsTo P g args w K' :=
  Calls.mono h fun _ _ ⟨v, he, hv⟩ => ⟨v, he, hk _ _ hv⟩

theorem run_call_func {g : FuncId} {xs : List Operand} {ts : Array TypeId} {dst : Option Tmp} {gd : Option (Nat × Bool)} (w : World) {x : Operand} {cap : List Value}
    (hx : f.ev x = .func (.func g) #[] cap.toArray) (own : Own P g) :
    (execOp f.ev ⟨dst, .call ⟨.value x, xs.toArray, ts⟩, T, p, af, gd⟩).run P w = .ok (.enter g (xs.map f.ev ++ cap).toArray) w := by
  have e1 : (xs.toArray.map f.ev) = (xs.map f.ev).toArray := by simp
  have e2 : (#[] ++ (xs.map f.ev).toArray : Array Value) ++ cap.toArray = (xs.map f.ev ++ cap).toArray := by simp
  simp only [execOp, resolve, hx, Deferred.ofValue, e1]
  show Sem.run P (callFunc g ((#[] ++ (xs.map f.ev).toArray : Array Value) ++ cap.toArray)) w = _
  rw [e2]
  exact own.enters _ w

theorem LR.call_val {g : FuncId} {xs : List Operand} {ts : Array TypeId} {x : Operand} {cap : List Value} (hx : f.ev x = .func (.func g) #[] cap.toArray) [own : Own P g] (hd : Nat.blt d n = true)
    (h : ∀ w, C w → CallsTo P g (xs.map f.ev ++ cap) w fun v w' => LW P n ops rest Q (upd f d v) (fun u => u = w')) :
    LR false P n ops (⟨some d, .call ⟨.value x, xs.toArray, ts⟩, T, p, af, none⟩ :: rest) Q f C := by
  intro w hw a ha
  refine wpList_plain rfl fun K hK => ?_
  have hr := run_call_func (T := T) (p := p) (af := af) (ts := ts) (dst := some d) (gd := none) (xs := xs) w hx own
  rw [← ha.eval] at hr
  simp only [Oper.wp, hr, Oper.upon_enter]
  rw [ha.eval]
  refine Calls.mono (h w hw) fun e w' ⟨v, he, hk⟩ => ?_
  subst he
  exact hK _ _ (hk w' rfl _ (ha.put v hd))

theorem LR.qcall_val {g : FuncId} {xs : List Operand} {ts : Array TypeId} {x : Operand} {cap : List Value} (hx : f.ev x = .func (.func g) #[] cap.toArray) [own : Own P g] (hd : Nat.blt d n = true)
    (h : ∀ w, C w → CallsTo P g (xs.map f.ev ++ cap) w fun u w' => u = v ∧ C w') (k : LR m P n ops rest Q (upd f d v) C) :
    LR m P n ops (⟨some d, .call ⟨.value x, xs.toArray, ts⟩, T, p, af, none⟩ :: rest) Q f C := by
  cases m with
  | false => exact LR.call_val hx hd fun w hw => (h w hw).mono fun u w' ⟨hu, hC⟩ => by subst hu; exact LW.sub k (fun _ e => e ▸ hC)
  | true =>
    intro a ha
    refine wpQuiet_step fun K hK => ?_
    simp only [Region.wanted, if_true]
    refine ⟨v, fun w hw => ?_, hK _ (k _ (ha.put v hd))⟩
    have hr := run_call_func (T := T) (p := p) (af := af) (ts := ts) (dst := some d) (gd := none) (xs := xs) w hx own
    rw [← ha.eval] at hr
    simp only [Oper.quietAt, hr, Oper.quietUpon]
    rw [ha.eval]
    exact ⟨trivial, Calls.mono (h w hw) fun e w' ⟨u, he, hu, hC⟩ => by subst hu; exact ⟨he, hC⟩⟩

theorem LR.call {g : FuncId} {xs : List Operand} {ts : Array TypeId} [own : Own P g] (hd : Nat.blt d n = true)
    (h : ∀ w, C w → CallsTo P g (xs.map f.ev) w fun v w' => LW P n ops rest Q (upd f d v) (fun u => u = w')) :
    LR false P n ops (⟨some d, .call ⟨.value (.func g), xs.toArray, ts⟩, T, p, af, none⟩ :: rest) Q f C :=
  LR.call_val (cap := []) rfl hd (by simpa using h)
theorem LR.qcall {g : FuncId} {xs : List Operand} {ts : Array TypeId} [own : Own P g] (hd : Nat.blt d n = true)
    (h : ∀ w, C w → CallsTo P g (xs.map f.ev) w fun u w' => u = v ∧ C w') (k : LR m P n ops rest Q (upd f d v) C) :
    LR m P n ops (⟨some d, .call ⟨.value (.func g), xs.toArray, ts⟩, T, p, af, none⟩ :: rest) Q f C :=
  LR.qcall_val (cap := []) rfl hd (by simpa using h) k

theorem CW.reg {id : Nat} {l : List Oper} (h : LR false P n l l Q f C) : CW P n (.region id l.toArray false) Q f C := CW.region h

class Mixed (P : Program) : Prop where
  mixed : P.follows .mixedOrders = true
class Drawn (C : World → Prop) : Prop where
  drew : ∀ w, C w → C { w with drawn := w.drawn + 1 }

theorem CW.reg_draw {id : Nat} {l : List Oper} [hm : Mixed P] [hc : Drawn C] (hB : Region.lexB .any l.toArray = true) (h : LR true P n l l Q f C) : CW P n (.region id l.toArray true) Q f C := by
  intro w hw a ha
  refine wp_region_quiet (C := C) hm.mixed hB (hc.drew w hw) ?_
  exact h a ha

def start (args : List Value) : Frm := fun t => args.getD t undef

def fin (P : Program) (fn : Func) (n : Nat) (R : Ending → World → Prop) : Post := fun e f w => ∀ a, Fits n a f → bodyPost P fn R e a w

theorem enter {g : FuncId} {fn : Func} {c : Code} {args : List Value} {R : Ending → World → Prop} {w : World} (hf : P.funcs[g]? = some fn) (hb : fn.body = some c)
    (hn : n = args.length + (fn.ntmps - args.length)) (h : CW P n c (fin P fn n R) (start args) (fun u => u = w)) : Calls P g args.toArray w R := by
  refine calls_of_wp hf hb ?_
  refine Code.wp_mono (fun e a w' hq => ?_) (h w rfl _ ⟨rfl, by simp [hn], fun t => ?_⟩)
  · obtain ⟨f', hf', hq⟩ := hq
    exact hq a hf'
  · simp only [start, Array.getD_eq_getD_getElem?, List.getD_eq_getElem?_getD]
    by_cases ht : t < args.length
    · rw [Array.getElem?_append_left (by simpa using ht)]; simp
    · rw [Array.getElem?_append_right (by simpa using ht)]
      rw [List.getElem?_eq_none (by omega)]
      simp only [Option.getD_none, Array.getElem?_replicate]
      split <;> rfl

theorem fin_ret1 {fn : Func} {R : Ending → World → Prop} {t : Tmp} (hr : fn.results = #[.tmp t]) (h : ∀ w, C w → R (.returned (f t)) w) : At (fin P fn n R) .ret f C := by
  intro w hw a ha
  refine bodyPost_ret (results_tmp hr _ _ _) ha.1 ?_
  rw [ha.2.2]; exact h w hw
theorem fin_ret2 {fn : Func} {R : Ending → World → Prop} {t u : Tmp} (hr : fn.results = #[.tmp t, .tmp u]) (h : ∀ w, C w → R (.returned (.tuple #[f t, f u])) w) : At (fin P fn n R) .ret f C := by
  intro w hw a ha
  refine bodyPost_ret (results_tmp2 hr _ _ _) ha.1 ?_
  rw [ha.2.2, ha.2.2]; exact h w hw
theorem results_tmp3' {fn : Func} {t u s : Tmp} (h : fn.results = #[.tmp t, .tmp u, .tmp s]) (tmps : Array Value) (P : Program) (w : World) :
    (results fn tmps).run P w = .ok (.tuple #[tmps.getD t undef, tmps.getD u undef, tmps.getD s undef]) w := by
  simp [results, h]
theorem fin_ret3 {fn : Func} {R : Ending → World → Prop} {t u s : Tmp} (hr : fn.results = #[.tmp t, .tmp u, .tmp s]) (h : ∀ w, C w → R (.returned (.tuple #[f t, f u, f s])) w) : At (fin P fn n R) .ret f C := by
  intro w hw a ha
  refine bodyPost_ret (results_tmp3' hr _ _ _) ha.1 ?_
  rw [ha.2.2, ha.2.2, ha.2.2]; exact h w hw
theorem fin_end0 {fn : Func} {R : Ending → World → Prop} (hr : fn.results = #[]) (h : ∀ w, C w → R (.returned (.tuple #[])) w) : At (fin P fn n R) .normal f C := by
  intro w hw a ha
  exact bodyPost_end (results_none hr _ _ _) ha.1 (h w hw)
end
end Go.Hb

namespace Go.Hb

inductive Asrt
  | own (b : Nat) (o : Obj)
  | ex (B : Nat → Prop) (φ : World → Prop)
  | rd (B : Nat → Prop) (φ : World → Prop)

def Asrt.foot : Asrt → Nat → Prop
  | .own b _ => fun k => k = b
  | .ex B _ => B
  | .rd B _ => B
def Asrt.holds : Asrt → World → Prop
  | .own b o => fun w => w.heap[b]? = some o
  | .ex _ φ => φ
  | .rd _ φ => φ
def Asrt.excl : Asrt → Bool
  | .rd _ _ => false
  | _ => true
def Asrt.dep (a : Asrt) : Prop := ∀ w w' : World, (∀ k, a.foot k → w'.heap[k]? = w.heap[k]?) → a.holds w → a.holds w'
theorem Asrt.dep_own (b : Nat) (o : Obj) : (Asrt.own b o).dep := fun w w' hk h => by
  have := hk b rfl
  show w'.heap[b]? = some o
  rw [this]; exact h

def NoF : Nat → Prop := fun _ => False

structure St (w0 : World) (F : Nat → Prop) (L : List Asrt) (w : World) : Prop where
  os : w.os = w0.os
  tape : w.tape = w0.tape
  output : w.output = w0.output
  size : w0.heap.size ≤ w.heap.size
  keep : ∀ k, k < w0.heap.size → ¬ F k → w.heap[k]? = w0.heap[k]?
  holds : ∀ a ∈ L, a.holds w
  live : ∀ a ∈ L, ∀ k, a.foot k → k < w.heap.size
  mine : ∀ a ∈ L, a.excl = true → ∀ k, a.foot k → k < w0.heap.size → F k
  dis : L.Pairwise fun a b => (a.excl || b.excl) = true → ∀ k, a.foot k → ¬ b.foot k
  dep : ∀ a ∈ L, a.dep

abbrev Keep (F : Nat → Prop) (w w' : World) : Prop := St w F [] w'
abbrev Grew (w w' : World) : Prop := St w NoF [] w'

theorem St.refl (w : World) (F : Nat → Prop) : St w F [] w :=
  ⟨rfl, rfl, rfl, Nat.le_refl _, fun _ _ _ => rfl, fun _ h => (by cases h), fun _ h => (by cases h), fun _ h => (by cases h), List.Pairwise.nil, fun _ h => (by cases h)⟩

instance (w0 : World) (F : Nat → Prop) (L : List Asrt) : Drawn (St w0 F L) where
  drew := fun w h => ⟨h.os, h.tape, h.output, h.size, h.keep, fun a ha => h.dep a ha w _ (fun _ _ => rfl) (h.holds a ha), h.live, h.mine, h.dis, h.dep⟩

section
variable {w0 w w' : World} {F : Nat → Prop} {L L' : List Asrt}

theorem St.toKeep (h : St w0 F L w) : Keep F w0 w := ⟨h.os, h.tape, h.output, h.size, h.keep, fun _ h => (by cases h), fun _ h => (by cases h), fun _ h => (by cases h), List.Pairwise.nil, fun _ h => (by cases h)⟩

theorem St.sub (h : St w0 F L w) (hs : L'.Sublist L) : St w0 F L' w :=
  ⟨h.os, h.tape, h.output, h.size, h.keep, fun a ha => h.holds a (hs.subset ha), fun a ha => h.live a (hs.subset ha), fun a ha => h.mine a (hs.subset ha), h.dis.sublist hs, fun a ha => h.dep a (hs.subset ha)⟩

theorem St.grew (h : St w0 F L w) (hk : Grew w w') : St w0 F L w' := by
  have hs : ∀ k, k < w.heap.size → w'.heap[k]? = w.heap[k]? := fun k hk' => hk.keep k hk' (fun x => x)
  refine ⟨hk.os.trans h.os, hk.tape.trans h.tape, hk.output.trans h.output, Nat.le_trans h.size hk.size, fun k hk' hF => ?_, fun a ha => ?_, fun a ha k hf => Nat.lt_of_lt_of_le (h.live a ha k hf) hk.size, h.mine, h.dis, h.dep⟩
  · rw [hs k (Nat.lt_of_lt_of_le hk' h.size)]; exact h.keep k hk' hF
  · exact h.dep a ha w w' (fun k hf => hs k (h.live a ha k hf)) (h.holds a ha)

theorem St.push (h : St w0 F L w) (hk : Grew w w') {a : Asrt} (ha : a.holds w') (hf : ∀ k, a.foot k → w.heap.size ≤ k ∧ k < w'.heap.size) (hd : a.dep) : St w0 F (a :: L) w' := by
  have h' := h.grew hk
  refine ⟨h'.os, h'.tape, h'.output, h'.size, h'.keep, ?_, ?_, ?_, ?_, ?_⟩
  · intro b hb; rcases List.mem_cons.1 hb with rfl | hb
    · exact ha
    · exact h'.holds b hb
  · intro b hb; rcases List.mem_cons.1 hb with rfl | hb
    · exact fun k hk => (hf k hk).2
    · exact h'.live b hb
  · intro b hb; rcases List.mem_cons.1 hb with rfl | hb
    · intro _ k hk' hlt; have := (hf k hk').1; have := h.size; omega
    · exact h'.mine b hb
  · refine List.pairwise_cons.2 ⟨fun b hb _ k hk1 hk2 => ?_, h'.dis⟩
    have := (hf k hk1).1; have := h.live b hb k hk2; omega
  · intro b hb; rcases List.mem_cons.1 hb with rfl | hb
    · exact hd
    · exact h'.dep b hb

theorem Grew.refl (w : World) : Grew w w := St.refl w NoF
theorem Grew.trans {w1 w2 : World} (h : Grew w w1) (h' : Grew w1 w2) : Grew w w2 := St.grew h h'
theorem Grew.alloc (w : World) (o : Obj) : Grew w { w with heap := w.heap.push o } := by
  refine ⟨rfl, rfl, rfl, by simp, fun k hk _ => ?_, fun _ h => (by cases h), fun _ h => (by cases h), fun _ h => (by cases h), List.Pairwise.nil, fun _ h => (by cases h)⟩
  show (w.heap.push o)[k]? = _
  rw [Array.getElem?_push, if_neg (by omega)]
theorem Grew.drew (w : World) : Grew w { w with drawn := w.drawn + 1 } := ⟨rfl, rfl, rfl, Nat.le_refl _, fun _ _ _ => rfl, fun _ h => (by cases h), fun _ h => (by cases h), fun _ h => (by cases h), List.Pairwise.nil, fun _ h => (by cases h)⟩

theorem St.alloc (h : St w0 F L w) (o : Obj) : St w0 F (.own w.heap.size o :: L) { w with heap := w.heap.push o } := by
  refine h.push (Grew.alloc w o) ?_ ?_ (Asrt.dep_own _ _)
  · show (w.heap.push o)[w.heap.size]? = some o
    simp
  · intro k hk
    have hk' : k = w.heap.size := hk
    subst hk'
    simp

inductive Sel : List Asrt → Asrt → Asrt → List Asrt → Prop
  | head (a a' : Asrt) (L : List Asrt) : Sel (a :: L) a a' (a' :: L)
  | tail {L L' : List Asrt} {a a' : Asrt} (x : Asrt) (h : Sel L a a' L') : Sel (x :: L) a a' (x :: L')

theorem Sel.mem {a a' : Asrt} (h : Sel L a a' L') : a ∈ L := by
  induction h with
  | head a a' L => exact List.mem_cons_self
  | tail x _ ih => exact List.mem_cons_of_mem _ ih
theorem Sel.back {a a' b : Asrt} (h : Sel L a a' L') (hb : b ∈ L') : b = a' ∨ b ∈ L := by
  induction h with
  | head a a' L =>
    rcases List.mem_cons.1 hb with rfl | hb
    · exact .inl rfl
    · exact .inr (List.mem_cons_of_mem _ hb)
  | tail x _ ih =>
    rcases List.mem_cons.1 hb with rfl | hb
    · exact .inr List.mem_cons_self
    · rcases ih hb with rfl | hb
      · exact .inl rfl
      · exact .inr (List.mem_cons_of_mem _ hb)

theorem Sel.others {a a' : Asrt} (h : Sel L a a' L') (hd : L.Pairwise fun a b => (a.excl || b.excl) = true → ∀ k, a.foot k → ¬ b.foot k) (ha : a.excl = true)
    (holds live mine' : Asrt → Prop) (ha' : holds a') (hrest : ∀ b ∈ L, (∀ k, a.foot k → ¬ b.foot k) → holds b) : ∀ b ∈ L', holds b := by
  induction h with
  | head a a' L =>
    intro b hb
    obtain ⟨h1, _⟩ := List.pairwise_cons.1 hd
    rcases List.mem_cons.1 hb with rfl | hb
    · exact ha'
    · exact hrest b (List.mem_cons_of_mem _ hb) (h1 b hb (by simp [ha]))
  | @tail L L' a a' x hs ih =>
    obtain ⟨h1, h2⟩ := List.pairwise_cons.1 hd
    intro b hb
    rcases List.mem_cons.1 hb with rfl | hb
    · refine hrest b List.mem_cons_self (fun k hk1 hk2 => h1 a hs.mem (by simp [ha]) k hk2 hk1)
    · exact ih h2 ha ha' (fun c hc => hrest c (List.mem_cons_of_mem _ hc)) b hb

theorem Sel.dis {a a' : Asrt} (h : Sel L a a' L') (hd : L.Pairwise fun a b => (a.excl || b.excl) = true → ∀ k, a.foot k → ¬ b.foot k) (ha : a.excl = true)
    {N : Nat} (hl : ∀ b ∈ L, ∀ k, b.foot k → k < N) (hf : ∀ k, a'.foot k → a.foot k ∨ N ≤ k) :
    L'.Pairwise fun a b => (a.excl || b.excl) = true → ∀ k, a.foot k → ¬ b.foot k := by
  induction h with
  | head a a' L =>
    obtain ⟨h1, h2⟩ := List.pairwise_cons.1 hd
    refine List.pairwise_cons.2 ⟨fun b hb _ k hk1 hk2 => ?_, h2⟩
    rcases hf k hk1 with h | h
    · exact h1 b hb (by simp [ha]) k h hk2
    · have := hl b (List.mem_cons_of_mem _ hb) k hk2; omega
  | @tail L L' a a' x hs ih =>
    obtain ⟨h1, h2⟩ := List.pairwise_cons.1 hd
    refine List.pairwise_cons.2 ⟨fun b hb hx k hk1 hk2 => ?_, ih h2 ha (fun b hb => hl b (List.mem_cons_of_mem _ hb)) hf⟩
    rcases hs.back hb with rfl | hb
    · rcases hf k hk2 with h | h
      · exact h1 a hs.mem (by simp [ha]) k hk1 h
      · have := hl x List.mem_cons_self k hk1; omega
    · exact h1 b hb hx k hk1 hk2

theorem St.turn (h : St w0 F L w) {a a' : Asrt} (hs : Sel L a a' L') (he : a.excl = true) (hk : Keep a.foot w w') (ha : a'.holds w')
    (hf : ∀ k, a'.foot k → a.foot k ∨ (w.heap.size ≤ k ∧ k < w'.heap.size)) (hd : a'.dep) : St w0 F L' w' := by
  refine ⟨hk.os.trans h.os, hk.tape.trans h.tape, hk.output.trans h.output, Nat.le_trans h.size hk.size, fun k hk' hF => ?_, ?_, ?_, ?_, ?_, ?_⟩
  · rw [hk.keep k (Nat.lt_of_lt_of_le hk' h.size) (fun hx => hF (h.mine a hs.mem he k hx hk'))]; exact h.keep k hk' hF
  · refine hs.others h.dis he (fun b => b.holds w') (fun _ => True) (fun _ => True) ha fun b hb hap => ?_
    exact h.dep b hb w w' (fun k hf => hk.keep k (h.live b hb k hf) (fun hx => hap k hx hf)) (h.holds b hb)
  · intro b hb k hfk
    rcases hs.back hb with rfl | hb
    · rcases hf k hfk with hx | hx
      · exact Nat.lt_of_lt_of_le (h.live a hs.mem k hx) hk.size
      · exact hx.2
    · exact Nat.lt_of_lt_of_le (h.live b hb k hfk) hk.size
  · intro b hb hbe k hfk hlt
    rcases hs.back hb with rfl | hb
    · rcases hf k hfk with hx | hx
      · exact h.mine a hs.mem he k hx hlt
      · have := h.size; omega
    · exact h.mine b hb hbe k hfk hlt
  · refine hs.dis h.dis he h.live (fun k hfk => ?_)
    rcases hf k hfk with hx | hx
    · exact .inl hx
    · exact .inr hx.1
  · intro b hb
    rcases hs.back hb with rfl | hb
    · exact hd
    · exact h.dep b hb

theorem St.old (h : St w0 F L w) {B : Nat → Prop} {φ : World → Prop} (hφ : φ w0) (hB : ∀ k, B k → k < w0.heap.size ∧ ¬ F k) (hd : (Asrt.rd B φ).dep) : St w0 F (.rd B φ :: L) w := by
  refine ⟨h.os, h.tape, h.output, h.size, h.keep, ?_, ?_, ?_, ?_, ?_⟩
  · intro b hb; rcases List.mem_cons.1 hb with rfl | hb
    · exact hd w0 w (fun k hk => h.keep k (hB k hk).1 (hB k hk).2) hφ
    · exact h.holds b hb
  · intro b hb; rcases List.mem_cons.1 hb with rfl | hb
    · exact fun k hk => Nat.lt_of_lt_of_le (hB k hk).1 h.size
    · exact h.live b hb
  · intro b hb he; rcases List.mem_cons.1 hb with rfl | hb
    · cases he
    · exact h.mine b hb he
  · refine List.pairwise_cons.2 ⟨fun b hb hx k hk1 hk2 => ?_, h.dis⟩
    have hx' : b.excl = true := by simpa [Asrt.excl] using hx
    exact (hB k hk1).2 (h.mine b hb hx' k hk2 (hB k hk1).1)
  · intro b hb; rcases List.mem_cons.1 hb with rfl | hb
    · exact hd
    · exact h.dep b hb

theorem St.own_at (h : St w0 F L w) {b : Nat} {o : Obj} (hm : Asrt.own b o ∈ L) : w.heap[b]? = some o := h.holds _ hm
end
end Go.Hb

namespace Go.Hb

class One (P : Program) (T : TypeId) : Prop where
  agg : ∀ w, (isAgg T).run P w = .ok false w
  size : ∀ w, (sizeOf T).run P w = .ok 1 w
class Agg (P : Program) (T : TypeId) (n : outParam Nat) : Prop where
  agg : ∀ w, (isAgg T).run P w = .ok true w
  size : ∀ w, (sizeOf T).run P w = .ok n w
class ZeroOf (P : Program) (T : TypeId) (cs : outParam (List Value)) : Prop where
  zero : ∃ v, (∀ w, (zeroValue T).run P w = .ok v w) ∧ v.cells = cs.toArray
class Fld (P : Program) (T : TypeId) (i : Nat) (off : outParam Nat) : Prop where
  at_ : ∀ b o w, (Instr.fieldAt T (.pointer (some ⟨b, o, none⟩)) i).run P w = .ok (.pointer (some ⟨b, o + off, none⟩)) w
class SliceOf (P : Program) (T : TypeId) (E : outParam TypeId) (sz : outParam Nat) (bytes : outParam Nat) : Prop where
  und : P.underlying T = some (.slice E)
  inf : (P.info? E).map (fun i => (i.size, i.bytes)) = some (sz, bytes)
  pos : 0 < sz
  zero : ∃ z, (P.info? E).bind (·.zero) = some z ∧ z.cells.size = sz
class ArrOf (P : Program) (T : TypeId) (len : outParam Nat) (E : outParam TypeId) (sz : outParam Nat) : Prop where
  und : P.underlying T = some (.array len E)
  size : ∀ w, (sizeOf E).run P w = .ok sz w
class Build (P : Program) (T : TypeId) (zero : outParam (List Value)) (places : outParam (List (Nat × Nat))) : Prop where
  run : ∀ w (parts : Array (Nat × Value)) cells, Instr.fill (fun i => places.toArray[i]?) zero.toArray parts.toList = some cells → (Instr.build T parts).run P w = .ok (.agg cells) w
class Eqs (P : Program) (T : TypeId) (n : outParam Nat) : Prop where
  eq : ∀ (x y : Operand) (xs ys : List Int) w, xs.length = n → ys.length = n →
    (do eqGuard .eql T x y (.agg (xs.map (Value.int .i64)).toArray) (.agg (ys.map (Value.int .i64)).toArray); binOp .eql T (.agg (xs.map (Value.int .i64)).toArray) (.agg (ys.map (Value.int .i64)).toArray)).run P w = .ok (.bool (decide (xs = ys))) w
  ne : ∀ (x y : Operand) (xs ys : List Int) w, xs.length = n → ys.length = n →
    (do eqGuard .neq T x y (.agg (xs.map (Value.int .i64)).toArray) (.agg (ys.map (Value.int .i64)).toArray); binOp .neq T (.agg (xs.map (Value.int .i64)).toArray) (.agg (ys.map (Value.int .i64)).toArray)).run P w = .ok (.bool (!decide (xs = ys))) w
class Bools (P : Program) (T : TypeId) : Prop where
  und : P.underlying T = some .bool
class ToInt (P : Program) (S D : TypeId) (k : outParam IntKind) : Prop where
  src : ∃ d, P.underlying S = some d
  dst : P.underlying D = some (.int k)
class IntT (P : Program) (T : TypeId) (k : outParam IntKind) : Prop where
  und : P.underlying T = some (.int k)
instance (P : Program) (S D : TypeId) (k' k : IntKind) [a : IntT P S k'] [b : IntT P D k] : ToInt P S D k := ⟨⟨_, a.und⟩, b.und⟩
class PtrTo (P : Program) (T : TypeId) : Prop where
  und : ∃ E, P.underlying T = some (.pointer E)

section
variable {P : Program} {C : World → Prop} {f : Frm} {T T' T'' : TypeId} {x y z : Operand} {v : Value}

theorem Ev.move : Ev P C f (.move x) T (f.ev x) := fun w _ d p af g => by simp [execOp]
theorem Ev.assign : Ev P C f (.assign x) T (f.ev x) := fun w _ d p af g => by simp [execOp]
theorem Ev.moveV (h : f.ev x = v) : Ev P C f (.move x) T v := h ▸ Ev.move
theorem Ev.assignV (h : f.ev x = v) : Ev P C f (.assign x) T v := h ▸ Ev.assign
theorem Ev.pick_t (h : f.ev x = .bool true) : Ev P C f (.pick x y z) T (f.ev y) := fun w _ d p af g => by simp [execOp, h, asBool]
theorem Ev.pick_f (h : f.ev x = .bool false) : Ev P C f (.pick x y z) T (f.ev z) := fun w _ d p af g => by simp [execOp, h, asBool]
theorem Ev.nilCheck {a : Addr} (h : f.ev x = .pointer (some a)) : Ev P C f (.nilCheck x) T (.pointer (some a)) := fun w _ d p af g => by simp [execOp, h]
theorem Ev.extract {vs : List Value} {i : Nat} (h : f.ev x = .tuple vs.toArray) (hv : vs[i]? = some v) : Ev P C f (.extract x i) T v := fun w _ d p af g => by
  simp [execOp, h, Instr.extract, hv]
theorem Ev.not {b : Bool} (h : f.ev x = .bool b) : Ev P C f (.unOp .not T' x) T (.bool (!b)) := fun w _ d p af g => by simp [execOp, h, Op.unary]
theorem Ev.makeFunc {fn : Fn} {xs ys : List Operand} : Ev P C f (.makeFunc fn xs.toArray ys.toArray) T (.func fn (xs.map f.ev).toArray (ys.map f.ev).toArray) := fun w _ d p af g => by
  simp [execOp, Instr.makeFunc]

theorem Ev.eql {k : IntKind} {a b : Int} (hx : f.ev x = .int k a) (hy : f.ev y = .int k b) : Ev P C f (.binOp .eql T' x y T'') T (.bool (decide (a = b))) := fun w _ d p af g => by
  simp [execOp, hx, hy, eqGuard, binOp, Op.intCmp]; rfl
theorem Ev.neq {k : IntKind} {a b : Int} (hx : f.ev x = .int k a) (hy : f.ev y = .int k b) : Ev P C f (.binOp .neq T' x y T'') T (.bool (!decide (a = b))) := fun w _ d p af g => by
  simp [execOp, hx, hy, eqGuard, binOp, Op.intCmp]; rfl
theorem Ev.lss {k : IntKind} {a b : Int} (hx : f.ev x = .int k a) (hy : f.ev y = .int k b) : Ev P C f (.binOp .lss T' x y T'') T (.bool (decide (a < b))) := fun w _ d p af g => by
  simp [execOp, hx, hy, eqGuard, binOp, Op.intCmp]
theorem Ev.leq {k : IntKind} {a b : Int} (hx : f.ev x = .int k a) (hy : f.ev y = .int k b) : Ev P C f (.binOp .leq T' x y T'') T (.bool (decide (a ≤ b))) := fun w _ d p af g => by
  simp [execOp, hx, hy, eqGuard, binOp, Op.intCmp]
theorem Ev.gtr {k : IntKind} {a b : Int} (hx : f.ev x = .int k a) (hy : f.ev y = .int k b) : Ev P C f (.binOp .gtr T' x y T'') T (.bool (decide (b < a))) := fun w _ d p af g => by
  simp [execOp, hx, hy, eqGuard, binOp, Op.intCmp]
theorem Ev.geq {k : IntKind} {a b : Int} (hx : f.ev x = .int k a) (hy : f.ev y = .int k b) : Ev P C f (.binOp .geq T' x y T'') T (.bool (decide (b ≤ a))) := fun w _ d p af g => by
  simp [execOp, hx, hy, eqGuard, binOp, Op.intCmp]
theorem Ev.addW {k : IntKind} {a b : Int} (hx : f.ev x = .int k a) (hy : f.ev y = .int k b) : Ev P C f (.binOp .add T' x y T'') T (.int k (k.wrap (a + b))) := fun w _ d p af g => by
  simp [execOp, hx, hy, eqGuard, binOp, Op.intArith]
theorem Ev.subW {k : IntKind} {a b : Int} (hx : f.ev x = .int k a) (hy : f.ev y = .int k b) : Ev P C f (.binOp .sub T' x y T'') T (.int k (k.wrap (a - b))) := fun w _ d p af g => by
  simp [execOp, hx, hy, eqGuard, binOp, Op.intArith]
theorem Ev.mulW {k : IntKind} {a b : Int} (hx : f.ev x = .int k a) (hy : f.ev y = .int k b) : Ev P C f (.binOp .mul T' x y T'') T (.int k (k.wrap (a * b))) := fun w _ d p af g => by
  simp [execOp, hx, hy, eqGuard, binOp, Op.intArith]
theorem wrap_i64 {a : Int} (h1 : -9223372036854775808 ≤ a) (h2 : a ≤ 9223372036854775807) : IntKind.i64.wrap a = a := IntWalk.i64_in _ ⟨h1, h2⟩
theorem Ev.add {a b : Int} (hx : f.ev x = .int .i64 a) (hy : f.ev y = .int .i64 b) (h1 : -9223372036854775808 ≤ a + b) (h2 : a + b ≤ 9223372036854775807) : Ev P C f (.binOp .add T' x y T'') T (.int .i64 (a + b)) := by
  have := Ev.addW (P := P) (C := C) (T := T) (T' := T') (T'' := T'') hx hy; rwa [wrap_i64 h1 h2] at this
theorem Ev.sub {a b : Int} (hx : f.ev x = .int .i64 a) (hy : f.ev y = .int .i64 b) (h1 : -9223372036854775808 ≤ a - b) (h2 : a - b ≤ 9223372036854775807) : Ev P C f (.binOp .sub T' x y T'') T (.int .i64 (a - b)) := by
  have := Ev.subW (P := P) (C := C) (T := T) (T' := T') (T'' := T'') hx hy; rwa [wrap_i64 h1 h2] at this
theorem Ev.mul {a b : Int} (hx : f.ev x = .int .i64 a) (hy : f.ev y = .int .i64 b) (h1 : -9223372036854775808 ≤ a * b) (h2 : a * b ≤ 9223372036854775807) : Ev P C f (.binOp .mul T' x y T'') T (.int .i64 (a * b)) := by
  have := Ev.mulW (P := P) (C := C) (T := T) (T' := T') (T'' := T'') hx hy; rwa [wrap_i64 h1 h2] at this
theorem Ev.rem {k : IntKind} {a b : Int} (hx : f.ev x = .int k a) (hy : f.ev y = .int k b) (h : b ≠ 0) : Ev P C f (.binOp .rem T' x y T'') T (.int k (a.tmod b)) := fun w _ d p af g => by
  simp [execOp, hx, hy, eqGuard, binOp, Op.intDiv, h]
theorem Ev.quo {k : IntKind} {a b : Int} (hx : f.ev x = .int k a) (hy : f.ev y = .int k b) (h : b ≠ 0) : Ev P C f (.binOp .quo T' x y T'') T (.int k (k.wrap (a.tdiv b))) := fun w _ d p af g => by
  simp [execOp, hx, hy, eqGuard, binOp, Op.intDiv, h]
theorem Ev.shr {k k' : IntKind} {a b : Int} (hx : f.ev x = .int k a) (hy : f.ev y = .int k' b) (h : 0 ≤ b) : Ev P C f (.binOp .shr T' x y T'') T (.int k (a.fdiv (2 ^ (min b.toNat k.bits)))) := fun w _ d p af g => by
  simp [execOp, hx, hy, eqGuard, binOp, Op.shift, show ¬ b < 0 by omega]
theorem Ev.shl {k k' : IntKind} {a b : Int} (hx : f.ev x = .int k a) (hy : f.ev y = .int k' b) (h : 0 ≤ b) : Ev P C f (.binOp .shl T' x y T'') T (.int k (k.wrap (a * 2 ^ (min b.toNat k.bits)))) := fun w _ d p af g => by
  simp [execOp, hx, hy, eqGuard, binOp, Op.shift, show ¬ b < 0 by omega]
def andI (k : IntKind) (a b : Int) : Int := k.wrap ((BitVec.ofInt k.bits a &&& BitVec.ofInt k.bits b).toNat)
def orI (k : IntKind) (a b : Int) : Int := k.wrap ((BitVec.ofInt k.bits a ||| BitVec.ofInt k.bits b).toNat)
def xorI (k : IntKind) (a b : Int) : Int := k.wrap ((BitVec.ofInt k.bits a ^^^ BitVec.ofInt k.bits b).toNat)
def andNotI (k : IntKind) (a b : Int) : Int := k.wrap ((BitVec.ofInt k.bits a &&& ~~~ BitVec.ofInt k.bits b).toNat)
theorem Ev.and {k : IntKind} {a b : Int} (hx : f.ev x = .int k a) (hy : f.ev y = .int k b) : Ev P C f (.binOp .and T' x y T'') T (.int k (andI k a b)) := fun w _ d p af g => by
  simp [execOp, hx, hy, eqGuard, binOp, Op.intBits, andI]
theorem Ev.or {k : IntKind} {a b : Int} (hx : f.ev x = .int k a) (hy : f.ev y = .int k b) : Ev P C f (.binOp .or T' x y T'') T (.int k (orI k a b)) := fun w _ d p af g => by
  simp [execOp, hx, hy, eqGuard, binOp, Op.intBits, orI]
theorem Ev.xor {k : IntKind} {a b : Int} (hx : f.ev x = .int k a) (hy : f.ev y = .int k b) : Ev P C f (.binOp .xor T' x y T'') T (.int k (xorI k a b)) := fun w _ d p af g => by
  simp [execOp, hx, hy, eqGuard, binOp, Op.intBits, xorI]
theorem Ev.andNot {k : IntKind} {a b : Int} (hx : f.ev x = .int k a) (hy : f.ev y = .int k b) : Ev P C f (.binOp .andNot T' x y T'') T (.int k (andNotI k a b)) := fun w _ d p af g => by
  simp [execOp, hx, hy, eqGuard, binOp, Op.intBits, andNotI]
theorem Ev.conv {k k' : IntKind} {a : Int} [hi : ToInt P T' T'' k] (hx : f.ev x = .int k' a) : Ev P C f (.convert T' T'' x) T (.int k (k.wrap a)) := fun w _ d p af g => by
  obtain ⟨d', hd'⟩ := hi.src
  simp [execOp, hx, convert, run_underlying hd', run_underlying hi.dst, Conv.intToInt]

theorem run_eq_of {w : World} {t : TypeId} {a b : Value} {r : Bool} (h : (Op.equalIn (9999 + 1) t a b).run P w = .ok r w) : (Op.equal t a b).run P w = .ok r w := h
theorem ev_eql_of {r : Bool} (hg : ∀ w, (eqGuard .eql T' x y (f.ev x) (f.ev y)).run P w = .ok () w) (hb : binOp .eql T' (f.ev x) (f.ev y) = (do pure (.bool (← Op.equal T' (f.ev x) (f.ev y)))))
    (h : ∀ w, (Op.equalIn (9999 + 1) T' (f.ev x) (f.ev y)).run P w = .ok r w) : Ev P C f (.binOp .eql T' x y T'') T (.bool r) := fun w _ d p af g => by
  have := run_eq_of (h w)
  simp only [execOp, hb, Sem.run_bind, hg, Result.andThen_ok, this, Sem.run_pure]
theorem ev_neq_of {r : Bool} (hg : ∀ w, (eqGuard .neq T' x y (f.ev x) (f.ev y)).run P w = .ok () w) (hb : binOp .neq T' (f.ev x) (f.ev y) = (do pure (.bool (!(← Op.equal T' (f.ev x) (f.ev y))))))
    (h : ∀ w, (Op.equalIn (9999 + 1) T' (f.ev x) (f.ev y)).run P w = .ok r w) : Ev P C f (.binOp .neq T' x y T'') T (.bool (!r)) := fun w _ d p af g => by
  have := run_eq_of (h w)
  simp only [execOp, hb, Sem.run_bind, hg, Result.andThen_ok, this, Sem.run_pure]
theorem Ev.eql_bool [h : Bools P T'] {a b : Bool} (hx : f.ev x = .bool a) (hy : f.ev y = .bool b) : Ev P C f (.binOp .eql T' x y T'') T (.bool (a == b)) :=
  ev_eql_of (fun w => by rw [hx, hy]; rfl) (by rw [hx, hy]; rfl) (fun w => by rw [hx, hy]; exact run_equalIn_bool w _ T' a b h.und)
theorem Ev.neq_bool [h : Bools P T'] {a b : Bool} (hx : f.ev x = .bool a) (hy : f.ev y = .bool b) : Ev P C f (.binOp .neq T' x y T'') T (.bool (!(a == b))) :=
  ev_neq_of (fun w => by rw [hx, hy]; rfl) (by rw [hx, hy]; rfl) (fun w => by rw [hx, hy]; exact run_equalIn_bool w _ T' a b h.und)
theorem run_equalIn_ptr {E : TypeId} {t : TypeId} (w : World) (d : Nat) (a : Option Addr) (h : P.underlying t = some (.pointer E)) : (Op.equalIn (d + 1) t (.pointer a) (.pointer none)).run P w = .ok a.isNone w := by
  cases a <;> simp [Op.equalIn, run_underlying h]
theorem run_equalIn_slc {E : TypeId} {t : TypeId} (w : World) (d : Nat) (a : Option Addr) (l c : Nat) (h : P.underlying t = some (.slice E)) : (Op.equalIn (d + 1) t (.slice a l c) (.slice none 0 0)).run P w = .ok a.isNone w := by
  cases a <;> simp [Op.equalIn, run_underlying h]
theorem Ev.ptr_nil [h : PtrTo P T'] {a : Option Addr} (hx : f.ev x = .pointer a) (hy : f.ev y = .pointer none) : Ev P C f (.binOp .eql T' x y T'') T (.bool a.isNone) := by
  obtain ⟨E, hE⟩ := h.und
  exact ev_eql_of (fun w => by rw [hx, hy]; rfl) (by rw [hx, hy]; rfl) (fun w => by rw [hx, hy]; exact run_equalIn_ptr w _ a hE)
theorem Ev.ptr_not_nil [h : PtrTo P T'] {a : Option Addr} (hx : f.ev x = .pointer a) (hy : f.ev y = .pointer none) : Ev P C f (.binOp .neq T' x y T'') T (.bool (!a.isNone)) := by
  obtain ⟨E, hE⟩ := h.und
  exact ev_neq_of (fun w => by rw [hx, hy]; rfl) (by rw [hx, hy]; rfl) (fun w => by rw [hx, hy]; exact run_equalIn_ptr w _ a hE)
theorem Ev.slice_nil {E : TypeId} {sz by_ : Nat} [h : SliceOf P T' E sz by_] {a : Option Addr} {l c : Nat} (hx : f.ev x = .slice a l c) (hy : f.ev y = .slice none 0 0) : Ev P C f (.binOp .eql T' x y T'') T (.bool a.isNone) :=
  ev_eql_of (fun w => by rw [hx, hy]; rfl) (by rw [hx, hy]; rfl) (fun w => by rw [hx, hy]; exact run_equalIn_slc w _ a l c h.und)
theorem Ev.structs {n : Nat} [h : Eqs P T' n] {xs ys : List Int} (hx : f.ev x = .agg (xs.map (Value.int .i64)).toArray) (hy : f.ev y = .agg (ys.map (Value.int .i64)).toArray) (h1 : xs.length = n) (h2 : ys.length = n) :
    Ev P C f (.binOp .eql T' x y T'') T (.bool (decide (xs = ys))) := fun w _ d p af g => by
  have := h.eq x y xs ys w h1 h2
  simp only [execOp, hx, hy]
  rw [Sem.run_bind, this]
  rfl
theorem Ev.structs_ne {n : Nat} [h : Eqs P T' n] {xs ys : List Int} (hx : f.ev x = .agg (xs.map (Value.int .i64)).toArray) (hy : f.ev y = .agg (ys.map (Value.int .i64)).toArray) (h1 : xs.length = n) (h2 : ys.length = n) :
    Ev P C f (.binOp .neq T' x y T'') T (.bool (!decide (xs = ys))) := fun w _ d p af g => by
  have := h.ne x y xs ys w h1 h2
  simp only [execOp, hx, hy]
  rw [Sem.run_bind, this]
  rfl
theorem Ev.eq2 [h : Eqs P T' 2] {a b a' b' : Int} (hx : f.ev x = .agg [.int .i64 a, .int .i64 b].toArray) (hy : f.ev y = .agg [.int .i64 a', .int .i64 b'].toArray) : Ev P C f (.binOp .eql T' x y T'') T (.bool (decide ([a, b] = [a', b']))) :=
  Ev.structs (xs := [a, b]) (ys := [a', b']) hx hy rfl rfl
theorem Ev.ne2 [h : Eqs P T' 2] {a b a' b' : Int} (hx : f.ev x = .agg [.int .i64 a, .int .i64 b].toArray) (hy : f.ev y = .agg [.int .i64 a', .int .i64 b'].toArray) : Ev P C f (.binOp .neq T' x y T'') T (.bool (!decide ([a, b] = [a', b']))) :=
  Ev.structs_ne (xs := [a, b]) (ys := [a', b']) hx hy rfl rfl
theorem Ev.eq4 [h : Eqs P T' 4] {a b c d a' b' c' d' : Int} (hx : f.ev x = .agg [.int .i64 a, .int .i64 b, .int .i64 c, .int .i64 d].toArray) (hy : f.ev y = .agg [.int .i64 a', .int .i64 b', .int .i64 c', .int .i64 d'].toArray) : Ev P C f (.binOp .eql T' x y T'') T (.bool (decide ([a, b, c, d] = [a', b', c', d']))) :=
  Ev.structs (xs := [a, b, c, d]) (ys := [a', b', c', d']) hx hy rfl rfl
theorem Ev.ne4 [h : Eqs P T' 4] {a b c d a' b' c' d' : Int} (hx : f.ev x = .agg [.int .i64 a, .int .i64 b, .int .i64 c, .int .i64 d].toArray) (hy : f.ev y = .agg [.int .i64 a', .int .i64 b', .int .i64 c', .int .i64 d'].toArray) : Ev P C f (.binOp .neq T' x y T'') T (.bool (!decide ([a, b, c, d] = [a', b', c', d']))) :=
  Ev.structs_ne (xs := [a, b, c, d]) (ys := [a', b', c', d']) hx hy rfl rfl

theorem Ev.fieldAddr {i off b o : Nat} [h : Fld P T' i off] (hx : f.ev x = .pointer (some ⟨b, o, none⟩)) : Ev P C f (.fieldAddr T' x i) T (.pointer (some ⟨b, o + off, none⟩)) := fun w _ d p af g => by
  simp only [execOp, hx]
  rw [Sem.run_bind, h.at_]
  rfl
theorem addr_add (b o n : Nat) : (⟨b, o, none⟩ : Addr).add n = ⟨b, o + n, none⟩ := by
  unfold Addr.add; split
  · rename_i h; subst h; rfl
  · rfl
theorem Ev.indexAddr {E : TypeId} {sz by_ b o l c : Nat} {k : IntKind} {i : Int} [h : SliceOf P T' E sz by_] (hx : f.ev x = .slice (some ⟨b, o, none⟩) l c) (hy : f.ev y = .int k i) (h0 : 0 ≤ i) (h1 : i < l) :
    Ev P C f (.indexAddr T' x y) T (.pointer (some ⟨b, o + i.toNat * sz, none⟩)) := fun w _ d p af g => by
  have hinf := h.inf
  cases hi : P.info? E with
  | none => simp [hi] at hinf
  | some inf =>
    simp only [hi, Option.map_some, Option.some.injEq, Prod.mk.injEq] at hinf
    simp [execOp, hx, hy, Instr.indexAt, asIntOf, run_underlying h.und, h0, h1, sizeOf, typeInfo, hi, hinf.1, addr_add]
theorem Ev.indexArr {E : TypeId} {len sz b o : Nat} {k : IntKind} {i : Int} [h : ArrOf P T' len E sz] (hx : f.ev x = .pointer (some ⟨b, o, none⟩)) (hy : f.ev y = .int k i) (h0 : 0 ≤ i) (h1 : i < len) :
    Ev P C f (.indexAddr T' x y) T (.pointer (some ⟨b, o + i.toNat * sz, none⟩)) := fun w _ d p af g => by
  simp [execOp, hx, hy, Instr.indexAt, asIntOf, run_underlying h.und, h0, h1, h.size, Instr.sureAddr, addr_add]
theorem Ev.len {E : TypeId} {sz by_ l c : Nat} {a : Option Addr} [h : SliceOf P T' E sz by_] (hx : f.ev x = .slice a l c) : Ev P C f (.call ⟨.builtin .len, [x].toArray, [T'].toArray⟩) T (.int .i64 l) := fun w _ d p af g => by
  simp [execOp, resolve, invoke, builtin, Builtin.len_, hx, run_underlying h.und, goInt]

end

theorem fold_set (off : Nat) : ∀ (vc : List Value) (j : Nat) (cs : Array Value), off + j + vc.length ≤ cs.size →
    ((vc.zipIdx j).foldl (fun cs (q : Value × Nat) => cs.setIfInBounds (off + q.2) q.1) cs).toList = cs.toList.take (off + j) ++ vc ++ cs.toList.drop (off + j + vc.length)
  | [], j, cs, _ => by simp
  | v :: r, j, cs, h => by
    simp only [List.length_cons] at h
    simp only [List.zipIdx_cons, List.foldl_cons]
    rw [fold_set off r (j + 1) _ (by simp; omega)]
    simp only [Array.toList_setIfInBounds, List.length_cons]
    apply List.ext_getElem?
    intro i
    simp only [List.getElem?_append, List.length_append, List.length_take, List.length_set, Array.length_toList, List.getElem?_take, List.getElem?_set, List.getElem?_drop]
    by_cases h1 : i < off + j
    · have e1 : i < min (off + (j + 1)) cs.size := by omega
      have e2 : i < min (off + j) cs.size := by omega
      have e3 : ¬ off + j = i := by omega
      simp [e1, e2, e3, show i < off + (j + 1) by omega, h1, show i < min (off + (j + 1)) cs.size + r.length by omega, show i < min (off + j) cs.size + (r.length + 1) by omega]
    · by_cases h2 : i = off + j
      · subst h2
        have e1 : off + j < min (off + (j + 1)) cs.size := by omega
        have e2 : ¬ off + j < min (off + j) cs.size := by omega
        have e3 : off + j - min (off + j) cs.size = 0 := by omega
        simp [e1, e2, e3, show off + j < off + (j + 1) by omega, show off + j < min (off + (j + 1)) cs.size + r.length by omega, show off + j < min (off + j) cs.size + (r.length + 1) by omega, show off + j < cs.size by omega]
      · have e1 : ¬ i < min (off + (j + 1)) cs.size := by omega
        have e2 : ¬ i < min (off + j) cs.size := by omega
        by_cases h3 : i < off + j + 1 + r.length
        · have e3 : i < min (off + (j + 1)) cs.size + r.length := by omega
          have e4 : i < min (off + j) cs.size + (r.length + 1) := by omega
          have e5 : i - min (off + j) cs.size = (i - min (off + (j + 1)) cs.size) + 1 := by omega
          simp [e1, e2, e3, e4, e5]
        · have e3 : ¬ i < min (off + (j + 1)) cs.size + r.length := by omega
          have e4 : ¬ i < min (off + j) cs.size + (r.length + 1) := by omega
          have e5 : ¬ off + j = off + (j + 1) + r.length + (i - (min (off + (j + 1)) cs.size + r.length)) := by omega
          have e6 : off + (j + 1) + r.length + (i - (min (off + (j + 1)) cs.size + r.length)) = off + j + (r.length + 1) + (i - (min (off + j) cs.size + (r.length + 1))) := by omega
          simp only [e3, if_false, e6, List.length_cons]
          rw [if_neg (by omega), if_neg e4]

theorem fill_full (sz : Nat) : ∀ (vs : List Value) (k : Nat) (cells : Array Value), cells.size = (k + vs.length) * sz → (∀ v ∈ vs, v.cells.size = sz) →
    Instr.fill (fun i => some (i * sz, sz)) cells ((vs.zipIdx k).map fun q => (q.2, q.1)) = some (cells.toList.take (k * sz) ++ vs.flatMap fun v => v.cells.toList).toArray
  | [], k, cells, h, _ => by
    have h' : cells.toList.length ≤ k * sz := by simp at h; simp [h]
    simp [Instr.fill, List.take_of_length_le h']
  | v :: r, k, cells, h, hv => by
    have hs := hv v List.mem_cons_self
    simp only [List.zipIdx_cons, List.map_cons, Instr.fill]
    have hle : k * sz + sz ≤ cells.size := by
      rw [h, List.length_cons, show k + (r.length + 1) = (k + 1) + r.length by omega, Nat.add_mul, Nat.add_mul]; omega
    have hno : ¬ ((v.cells.size ≠ sz || k * sz + v.cells.size > cells.size) = true) := by simp [hs]; omega
    rw [if_neg hno]
    have hf := fold_set (k * sz) v.cells.toList 0 cells (by simp [hs]; omega)
    have hsz : v.cells.toList.length = sz := by simpa using hs
    have ef : Array.foldl (fun cs (x : Value × Nat) => match x with | (c, j) => cs.setIfInBounds (k * sz + j) c) cells v.cells.zipIdx = (v.cells.toList.zipIdx.foldl (fun cs (q : Value × Nat) => cs.setIfInBounds (k * sz + q.2) q.1) cells) := by
      rw [← Array.foldl_toList, Array.toList_zipIdx]
    rw [ef]
    have hsize : (v.cells.toList.zipIdx.foldl (fun cs (q : Value × Nat) => cs.setIfInBounds (k * sz + q.2) q.1) cells).size = cells.size := by
      rw [← Array.length_toList, hf]; simp; omega
    rw [fill_full sz r (k + 1) _ (by rw [hsize, h, List.length_cons]; congr 1; omega) (fun u hu => hv u (List.mem_cons_of_mem _ hu)), hf]
    congr 2
    simp only [Nat.add_zero, List.flatMap_cons]
    rw [show (k + 1) * sz = k * sz + sz by rw [Nat.add_mul]; omega]
    have h1 : (cells.toList.take (k * sz)).length = k * sz := by simp; omega
    have h2 : (cells.toList.take (k * sz) ++ v.cells.toList).length = k * sz + sz := by rw [List.length_append, h1, hsz]
    rw [List.take_append_of_le_length (by omega), List.take_of_length_le (by omega), List.append_assoc]

theorem run_load_one {P : Program} {T : TypeId} (h : One P T) {w : World} {a : Addr} {v : Value} (hc : w.cell? a = some v) : (loadVar T a).run P w = .ok v w := by
  simp only [loadVar, Sem.run_bind, h.agg, Result.andThen_ok]
  simp [load, Sem.run, hc]
theorem run_load_agg {P : Program} {T : TypeId} {n : Nat} (h : Agg P T n) {w : World} {a : Addr} {cs : List Value} (hl : cs.length = n) (hc : ∀ j v, cs[j]? = some v → w.cell? (a.add j) = some v) : (loadVar T a).run P w = .ok (.agg cs.toArray) w := by
  subst hl
  simp only [loadVar, Sem.run_bind, h.agg, Result.andThen_ok]
  simp [h.size, run_loadCells_list w a cs hc]

def fillL (places : List (Nat × Nat)) (zero : List Value) : List (Nat × Value) → List Value
  | [] => zero
  | q :: r => fillL places (zero.take (places.getD q.1 (0, 0)).1 ++ q.2.cells.toList ++ zero.drop ((places.getD q.1 (0, 0)).1 + q.2.cells.toList.length)) r
def wfParts (places : List (Nat × Nat)) (len : Nat) : List (Nat × Value) → Bool
  | [] => true
  | q :: r => Nat.blt q.1 places.length && Nat.beq q.2.cells.toList.length (places.getD q.1 (0, 0)).2 && Nat.ble ((places.getD q.1 (0, 0)).1 + q.2.cells.toList.length) len && wfParts places len r
theorem fill_struct (places : List (Nat × Nat)) : ∀ (parts : List (Nat × Value)) (zero : List Value), wfParts places zero.length parts = true →
    Instr.fill (fun i => places.toArray[i]?) zero.toArray parts = some (fillL places zero parts).toArray
  | [], zero, _ => rfl
  | q :: r, zero, h => by
    obtain ⟨i, v⟩ := q
    simp only [wfParts, Bool.and_eq_true] at h
    obtain ⟨⟨⟨h1, h2⟩, h3⟩, h4⟩ := h
    have h1' : i < places.length := Nat.le_of_ble_eq_true h1
    have h2' := Nat.eq_of_beq_eq_true h2
    have h3' := Nat.le_of_ble_eq_true h3
    have hp : places.toArray[i]? = some (places.getD i (0, 0)) := by simp [List.getD_eq_getElem?_getD, h1']
    generalize hq : places.getD i (0, 0) = pl at *
    obtain ⟨off, size⟩ := pl
    simp only at h2' h3'
    simp only [Instr.fill, hp]
    have hs : v.cells.size = size := by simpa using h2'
    have hno : ¬ ((v.cells.size ≠ size || off + v.cells.size > zero.toArray.size) = true) := by simp at h3' ⊢; omega
    rw [if_neg hno]
    have hf := fold_set off v.cells.toList 0 zero.toArray (by simpa using h3')
    have ef : Array.foldl (fun cs (x : Value × Nat) => match x with | (c, j) => cs.setIfInBounds (off + j) c) zero.toArray v.cells.zipIdx = (v.cells.toList.zipIdx.foldl (fun cs (q : Value × Nat) => cs.setIfInBounds (off + q.2) q.1) zero.toArray) := by
      rw [← Array.foldl_toList, Array.toList_zipIdx]
    rw [ef]
    have e2 : (v.cells.toList.zipIdx.foldl (fun cs (q : Value × Nat) => cs.setIfInBounds (off + q.2) q.1) zero.toArray) = (zero.take off ++ v.cells.toList ++ zero.drop (off + v.cells.toList.length)).toArray := by
      apply Array.ext'
      rw [hf]; simp
    rw [e2, fill_struct places r]
    · simp only [fillL, hq]
    · have : (zero.take off ++ v.cells.toList ++ zero.drop (off + v.cells.toList.length)).length = zero.length := by simp at h3' ⊢; omega
      rw [this]; exact h4
theorem Ev.build {P : Program} {C : World → Prop} {f : Frm} {T T' : TypeId} {parts : List (Nat × Operand)} {zero : List Value} {places : List (Nat × Nat)} [h : Build P T' zero places]
    (hw : wfParts places zero.length (parts.map fun q => (q.1, f.ev q.2)) = true) : Ev P C f (.build T' parts.toArray) T (.agg (fillL places zero (parts.map fun q => (q.1, f.ev q.2))).toArray) := fun w _ d p af g => by
  have e : (parts.toArray.map fun (i, x) => (i, f.ev x)) = (parts.map fun q => (q.1, f.ev q.2)).toArray := by simp
  have := h.run w (parts.map fun q => (q.1, f.ev q.2)).toArray _ (fill_struct places _ zero hw)
  simp only [execOp, e]
  rw [Sem.run_bind, this]
  rfl

section
variable {P : Program} {f : Frm} {T T' : TypeId} {x y : Operand} {v : Value} {w0 : World} {F : Nat → Prop} {L L' : List Asrt} {C : World → Prop}

theorem Ev.load {a : Addr} [h : One P T] (hx : f.ev x = .pointer (some a)) (hc : ∀ w, C w → w.cell? a = some v) : Ev P C f (.load T x) T' v := fun w hw d p af g => by
  simp only [execOp, hx, Instr.loadAt, Instr.sureAddr, Sem.run_bind, Sem.run_pure, Result.andThen_ok, run_load_one h (hc w hw)]

theorem cell_own {w : World} {b o : Nat} {c : Array Value} {E : TypeId} {fr : Nat × Nat} (h : w.heap[b]? = some (.cells c E fr)) : w.cell? ⟨b, o, none⟩ = c[o]? := by
  simp [World.cell?, h]

theorem Ev.load_agg_at {a : Addr} {n : Nat} {cs : List Value} [h : Agg P T n] (hx : f.ev x = .pointer (some a)) (hl : cs.length = n) (hc : ∀ w, C w → ∀ j v, cs[j]? = some v → w.cell? (a.add j) = some v) :
    Ev P C f (.load T x) T' (.agg cs.toArray) := fun w hw d p af g => by
  simp only [execOp, hx, Instr.loadAt, Instr.sureAddr, Sem.run_bind, Sem.run_pure, Result.andThen_ok, run_load_agg h hl (hc w hw)]

variable {n : Nat} {ops rest : List Oper} {Q : Post} {p : String} {af : Array Edge} {d : Nat}

theorem LR.box {cs : List Value} (hv : (f.ev x).cells = cs.toArray) (hd : Nat.blt d n = true)
    (k : ∀ b, LR false P n ops rest Q (upd f d (.pointer (some ⟨b, 0, none⟩))) (St w0 F (.own b (.cells cs.toArray T (0, 0)) :: L))) :
    LR false P n ops (⟨some d, .box T x, T', p, af, none⟩ :: rest) Q f (St w0 F L) := by
  intro w hw a ha
  refine wpList_plain rfl fun K hK => ?_
  have hr : (execOp a.eval ⟨some d, .box T x, T', p, af, none⟩).run P w = .ok (.value (.pointer (some ⟨w.heap.size, 0, none⟩))) { w with heap := w.heap.push (.cells cs.toArray T (0, 0)) } := by
    rw [ha.eval]
    simp [execOp, Instr.box, newVar, newRow, newObj, Sem.run, hv]
  simp only [Oper.wp, hr, Oper.upon_value]
  exact hK _ _ (k w.heap.size _ (hw.alloc _) _ (ha.put _ hd))

theorem LR.alloc {cs : List Value} [h : ZeroOf P T cs] (hd : Nat.blt d n = true)
    (k : ∀ b, LR false P n ops rest Q (upd f d (.pointer (some ⟨b, 0, none⟩))) (St w0 F (.own b (.cells cs.toArray T (0, 0)) :: L))) :
    LR false P n ops (⟨some d, .alloc T, T', p, af, none⟩ :: rest) Q f (St w0 F L) := by
  intro w hw a ha
  obtain ⟨z, hz, hc⟩ := h.zero
  refine wpList_plain rfl fun K hK => ?_
  have hr : (execOp a.eval ⟨some d, .alloc T, T', p, af, none⟩).run P w = .ok (.value (.pointer (some ⟨w.heap.size, 0, none⟩))) { w with heap := w.heap.push (.cells cs.toArray T (0, 0)) } := by
    simp [execOp, Instr.alloc, hz, newVar, newRow, newObj, Sem.run, hc]
  simp only [Oper.wp, hr, Oper.upon_value]
  exact hK _ _ (k w.heap.size _ (hw.alloc _) _ (ha.put _ hd))

theorem LR.buildSlice {E : TypeId} {sz by_ len : Nat} [h : SliceOf P T E sz by_] {parts : List (Nat × Operand)} (hd : Nat.blt d n = true) (hlen : Nat.ble (len * sz) 100000 = true)
    (hp : parts.map (·.1) = List.range len) (hs : (parts.all fun q => Nat.beq (f.ev q.2).cells.size sz) = true)
    (k : ∀ b, LR false P n ops rest Q (upd f d (.slice (some ⟨b, 0, none⟩) len len)) (St w0 F (.own b (.cells (parts.flatMap fun q => (f.ev q.2).cells.toList).toArray E (0, 0)) :: L))) :
    LR false P n ops (⟨some d, .buildSlice T len parts.toArray, T', p, af, none⟩ :: rest) Q f (St w0 F L) := by
  intro w hw a ha
  refine wpList_plain rfl fun K hK => ?_
  have hinf := h.inf
  obtain ⟨z, hz, hzs⟩ := h.zero
  have hl := Nat.le_of_ble_eq_true hlen
  have e : (parts.toArray.map fun (i, x) => (i, f.ev x)) = (parts.map fun q => (q.1, f.ev q.2)).toArray := by simp
  generalize hcs : (parts.flatMap fun q => (f.ev q.2).cells.toList) = cs at k
  have hf : ∀ c0 : Array Value, c0.size = len * sz → Instr.fill (fun i => some (i * sz, sz)) c0 (parts.map fun q => (q.1, f.ev q.2)) = some cs.toArray := by
    intro c0 h0
    have hlen' : len = parts.length := by have := congrArg List.length hp; simpa using this.symm
    have := fill_full sz (parts.map fun q => f.ev q.2) 0 c0 (by rw [h0, hlen']; simp) (by
      intro v hv
      obtain ⟨q, hq, rfl⟩ := List.mem_map.1 hv
      exact Nat.eq_of_beq_eq_true (List.all_eq_true.1 hs q hq))
    have e2 : ((parts.map fun q => f.ev q.2).zipIdx 0).map (fun q => (q.2, q.1)) = parts.map fun q => (q.1, f.ev q.2) := by
      apply List.ext_getElem
      · simp
      · intro i h1 h2
        simp only [List.getElem_map, List.getElem_zipIdx, Nat.zero_add]
        have h3 : (parts.map (·.1))[i]'(by simpa using h2) = i := by simp only [hp, List.getElem_range]
        simp only [List.getElem_map] at h3
        rw [h3]
    rw [e2] at this
    rw [this, ← hcs]
    simp [List.flatMap_map]
  have hr : (execOp a.eval ⟨some d, .buildSlice T len parts.toArray, T', p, af, none⟩).run P w = .ok (.value (.slice (some ⟨w.heap.size, 0, none⟩) len len)) { w with heap := w.heap.push (.cells cs.toArray E (0, 0)) } := by
    rw [ha.eval]
    cases hi : P.info? E with
    | none => simp [hi] at hinf
    | some inf =>
      simp only [hi, Option.map_some, Option.some.injEq, Prod.mk.injEq] at hinf
      simp only [hi, Option.bind_some] at hz
      have hs : sz > 0 := h.pos
      have hno : ¬ (len * sz > 2 ^ 24) := by omega
      simp only [execOp, e, Instr.buildSlice, run_underlying h.und, sizeOf, typeInfo, hi, Sem.run_bind, Sem.run_pure, Result.andThen_ok, program, Sem.run, hinf.1, hno, if_false]
      by_cases h0 : len * sz = 0
      · simp only [h0, if_true, Sem.run_bind, Sem.run_pure, Result.andThen_ok]
        rw [hf _ (by simp [h0])]
        simp [newRow, newObj, Sem.run]
      · simp only [h0, if_false, zeroValue, typeInfo, hi, hz, program, Sem.run_bind, Sem.run_pure, Result.andThen_ok, Sem.run]
        rw [hf _ (by simp)]
        simp [newRow, newObj, Sem.run]
  simp only [Oper.wp, hr, Oper.upon_value]
  exact hK _ _ (k w.heap.size _ (hw.alloc _) _ (ha.put _ hd))
inductive BS (f : Frm) : Nat → List (Nat × Operand) → List Value → Prop
  | nil (sz : Nat) : BS f sz [] []
  | cons {sz i : Nat} {x : Operand} {ps : List (Nat × Operand)} {vs cs : List Value} (h : (f.ev x).cells = vs.toArray) (hs : vs.length = sz) (r : BS f sz ps cs) : BS f sz ((i, x) :: ps) (vs ++ cs)
theorem BS.int {i : Nat} {x : Operand} {ps : List (Nat × Operand)} {cs : List Value} {k : IntKind} {a : Int} (h : f.ev x = .int k a) (r : BS f 1 ps cs) : BS f 1 ((i, x) :: ps) (.int k a :: cs) := BS.cons (vs := [.int k a]) (by rw [h]; rfl) rfl r
theorem BS.ptr {i : Nat} {x : Operand} {ps : List (Nat × Operand)} {cs : List Value} {a : Option Addr} (h : f.ev x = .pointer a) (r : BS f 1 ps cs) : BS f 1 ((i, x) :: ps) (.pointer a :: cs) := BS.cons (vs := [.pointer a]) (by rw [h]; rfl) rfl r
theorem BS.slice {i : Nat} {x : Operand} {ps : List (Nat × Operand)} {cs : List Value} {a : Option Addr} {l c : Nat} (h : f.ev x = .slice a l c) (r : BS f 1 ps cs) : BS f 1 ((i, x) :: ps) (.slice a l c :: cs) := BS.cons (vs := [.slice a l c]) (by rw [h]; rfl) rfl r
theorem BS.agg {sz i : Nat} {x : Operand} {ps : List (Nat × Operand)} {vs cs : List Value} (h : f.ev x = .agg vs.toArray) (hs : vs.length = sz) (r : BS f sz ps cs) : BS f sz ((i, x) :: ps) (vs ++ cs) := BS.cons (vs := vs) (by rw [h]; rfl) hs r
theorem BS.out {sz : Nat} {ps : List (Nat × Operand)} {cs : List Value} (h : BS f sz ps cs) : ps.flatMap (fun q => (f.ev q.2).cells.toList) = cs ∧ (ps.all fun q => Nat.beq (f.ev q.2).cells.size sz) = true := by
  induction h with
  | nil => exact ⟨rfl, rfl⟩
  | cons h hs r ih =>
    refine ⟨by rw [List.flatMap_cons, ih.1, h], ?_⟩
    rw [List.all_cons, ih.2, h]
    simp [hs]
theorem LR.buildSliceB {E : TypeId} {sz by_ len : Nat} [h : SliceOf P T E sz by_] {parts : List (Nat × Operand)} {cs : List Value} (hd : Nat.blt d n = true) (hlen : Nat.ble (len * sz) 100000 = true)
    (hp : parts.map (·.1) = List.range len) (hb : BS f sz parts cs)
    (k : ∀ b, LR false P n ops rest Q (upd f d (.slice (some ⟨b, 0, none⟩) len len)) (St w0 F (.own b (.cells cs.toArray E (0, 0)) :: L))) :
    LR false P n ops (⟨some d, .buildSlice T len parts.toArray, T', p, af, none⟩ :: rest) Q f (St w0 F L) := by
  obtain ⟨h1, h2⟩ := hb.out
  exact LR.buildSlice hd hlen hp h2 (by rw [h1]; exact k)
end
end Go.Hb

namespace Go.Hb

def finK (P : Program) (fn : Func) (n : Nat) (K : Value → World → Prop) : Post := fin P fn n fun e w' => ∃ v, e = .returned v ∧ K v w'

theorem go_in {P : Program} {n : Nat} {g : FuncId} {fn : Func} {c : Code} {args : List Value} {K : Value → World → Prop} {w : World} {F : Nat → Prop} {L : List Asrt} (hS : St w F L w)
    (hf : P.funcs[g]? = some fn) (hb : fn.body = some c) (hn : n = args.length + (fn.ntmps - args.length)) (h : CW P n c (finK P fn n K) (start args) (St w F L)) : CallsTo P g args w K :=
  enter hf hb hn (h.sub fun _ e => e ▸ hS)

section
variable {P : Program} {n : Nat} {f : Frm} {C : World → Prop} {fn : Func} {K : Value → World → Prop}
theorem ret1 {t : Tmp} (hr : fn.results = #[.tmp t]) (h : ∀ w, C w → K (f t) w) : At (finK P fn n K) .ret f C := fin_ret1 hr fun w hw => ⟨_, rfl, h w hw⟩
theorem ret2 {t u : Tmp} (hr : fn.results = #[.tmp t, .tmp u]) (h : ∀ w, C w → K (.tuple [f t, f u].toArray) w) : At (finK P fn n K) .ret f C := fin_ret2 hr fun w hw => ⟨_, rfl, h w hw⟩
theorem ret3 {t u s : Tmp} (hr : fn.results = #[.tmp t, .tmp u, .tmp s]) (h : ∀ w, C w → K (.tuple [f t, f u, f s].toArray) w) : At (finK P fn n K) .ret f C := fin_ret3 hr fun w hw => ⟨_, rfl, h w hw⟩
theorem end0 (hr : fn.results = #[]) (h : ∀ w, C w → K (.tuple #[]) w) : At (finK P fn n K) .normal f C := fin_end0 hr fun w hw => ⟨_, rfl, h w hw⟩
end

theorem CallsTo.q {P : Program} {g : FuncId} {args : List Value} {w w0 : World} {F : Nat → Prop} {L : List Asrt} {u : Value} (h : CallsTo P g args w fun v w' => v = u ∧ Grew w w') (h1 : St w0 F L w) :
    CallsTo P g args w fun v w' => v = u ∧ St w0 F L w' := h.mono fun _ _ ⟨a, b⟩ => ⟨a, h1.grew b⟩

def noG (Q : Post) : Post
  | .goto _, _, _ => False
  | e, f, w => Q e f w
section
variable {P : Program} {n : Nat} {Q : Post} {f : Frm} {C : World → Prop}
theorem CW.scope {c : Code} (h : CW P n c (noG Q) f C) : CW P n (.scope c) Q f C := by
  intro w hw a ha
  refine wp_scope_straight (Code.wp_mono (fun e a' w' hq => ?_) (h w hw a ha))
  obtain ⟨f', hf', hq⟩ := hq
  cases e with
  | normal => exact ⟨f', hf', hq⟩
  | exit id => exact ⟨f', hf', hq⟩
  | goto l => exact hq.elim
  | ret => exact ⟨f', hf', hq⟩
  | panic ch => exact ⟨f', hf', hq⟩
  | outgrown => exact ⟨f', hf', hq⟩
theorem CW.label {l : Nat} (h : At Q .normal f C) : CW P n (.label l) Q f C := fun w hw _ ha => wp_label ⟨f, ha, h w hw⟩
theorem At.noG (h : At Q .normal f C) : At (noG Q) .normal f C := h
end

class Sz (P : Program) (T : TypeId) (n : outParam Nat) : Prop where
  size : ∀ w, (sizeOf T).run P w = .ok n w
instance (P : Program) (T : TypeId) [h : One P T] : Sz P T 1 := ⟨h.size⟩
instance (P : Program) (T : TypeId) (n : Nat) [h : Agg P T n] : Sz P T n := ⟨h.size⟩

def splice (cs : List Value) (o : Nat) (vs : List Value) : List Value := cs.take o ++ vs ++ cs.drop (o + vs.length)

theorem Keep.setRow (w : World) (g : Nat) (cur cs : Array Value) (e : TypeId) (hg : w.heap[g]? = some (.cells cur e (0, 0))) {F : Nat → Prop} (hF : F g) : Keep F w (w.setRow g cs) :=
  ⟨rfl, rfl, rfl, by simp, fun k _ hk => setRow_other w g k cs (fun e => hk (e ▸ hF)), fun _ h => (by cases h), fun _ h => (by cases h), fun _ h => (by cases h), List.Pairwise.nil, fun _ h => (by cases h)⟩

theorem run_storeVar {P : Program} {T : TypeId} {m : Nat} (h : Sz P T m) (w : World) (g o : Nat) (v : Value) (vs cs : List Value) (e : TypeId) (hv : v.cells = vs.toArray) (hm : vs.length = m)
    (hg : w.heap[g]? = some (.cells cs.toArray e (0, 0))) (hb : o + vs.length ≤ cs.length) (h1 : vs.all Value.oneCell' = true) : (storeVar T ⟨g, o, none⟩ v).run P w = .ok () (w.setRow g (splice cs o vs).toArray) := by
  have hst := run_storeCells_at P g o e vs 0 cs.toArray w hg (by simpa using hb) (fun u hu => List.all_eq_true.1 h1 u hu)
  simp only [storeVar, Sem.run_bind, h.size, Result.andThen_ok, hv, List.size_toArray, hm]
  rw [if_neg (by simp)]
  simpa [splice] using hst

section
variable {P : Program} {f : Frm} {T T' : TypeId} {x y : Operand} {v : Value} {w0 : World} {F : Nat → Prop} {L L' : List Asrt} {C : World → Prop}
variable {n : Nat} {ops rest : List Oper} {Q : Post} {p : String} {af : Array Edge} {d : Nat}

theorem LR.store {b o m : Nat} {cs vs : List Value} {E : TypeId} [h : Sz P T m] (hx : f.ev x = .pointer (some ⟨b, o, none⟩)) (hv : (f.ev y).cells = vs.toArray)
    (hs : Sel L (.own b (.cells cs.toArray E (0, 0))) (.own b (.cells (splice cs o vs).toArray E (0, 0))) L')
    (h1 : vs.all Value.oneCell' = true) (hm : Nat.beq vs.length m = true) (hb : Nat.ble (o + vs.length) cs.length = true)
    (k : LR false P n ops rest Q f (St w0 F L')) : LR false P n ops (⟨none, .store T x y, T', p, af, none⟩ :: rest) Q f (St w0 F L) := by
  intro w hw a ha
  refine wpList_plain rfl fun K hK => ?_
  have hg := hw.own_at hs.mem
  have hr : (execOp a.eval ⟨none, .store T x y, T', p, af, none⟩).run P w = .ok .skip (w.setRow b (splice cs o vs).toArray) := by
    have := run_storeVar h w b o (f.ev y) vs cs E hv (Nat.eq_of_beq_eq_true hm) hg (Nat.le_of_ble_eq_true hb) h1
    rw [ha.eval]
    simp only [execOp, hx, Instr.storeAt, Instr.sureAddr, Sem.run_bind, Sem.run_pure, Result.andThen_ok, this]
  simp only [Oper.wp, hr, Oper.upon_skip]
  refine hK _ _ (k _ ?_ _ (ha.put_none undef))
  exact hw.turn hs rfl (Keep.setRow w b _ _ E hg rfl) (setRow_heap w b _ _ E (0, 0) hg) (fun k hk => .inl hk) (Asrt.dep_own _ _)

def Rd (w : World) (a : Option Addr) (xs : List Value) : Prop := ∀ j v, xs[j]? = some v → ∃ ad, a = some ad ∧ w.cell? (ad.add j) = some v
def rdFoot (a : Option Addr) (xs : List Value) : Nat → Prop := fun k => xs ≠ [] ∧ ∃ ad, a = some ad ∧ k = ad.block
def rdA (a : Option Addr) (xs : List Value) : Asrt := .rd (rdFoot a xs) (fun w => Rd w a xs)
def osl (v : Value) (E : TypeId) (sz n : Nat) (xs : List Value) : Asrt := .ex (fun k => v.ownBlock = some k) (fun w => w.ownsRow 0 E sz v n xs)

theorem addr_add_block (ad : Addr) (j : Nat) : (ad.add j).block = ad.block := by unfold Addr.add; split <;> rfl
theorem Rd.dep (a : Option Addr) (xs : List Value) : (rdA a xs).dep := by
  intro w w' hk h j v hj
  obtain ⟨ad, ha, hc⟩ := h j v hj
  refine ⟨ad, ha, ?_⟩
  have hb := hk ad.block ⟨by intro e; rw [e] at hj; simp at hj, ad, ha, rfl⟩
  simp only [World.cell?, addr_add_block] at hc ⊢
  rw [hb]; exact hc
theorem Rd.live {w : World} {a : Option Addr} {xs : List Value} (h : Rd w a xs) : ∀ k, rdFoot a xs k → k < w.heap.size := by
  rintro k ⟨hne, ad, ha, rfl⟩
  cases xs with
  | nil => exact (hne rfl).elim
  | cons v r =>
    obtain ⟨ad', ha', hc⟩ := h 0 v rfl
    rw [ha] at ha'; cases ha'
    have := World.block_lt_of_cell? w _ hc
    rwa [addr_add_block] at this
theorem Rd.nil (w : World) (a : Option Addr) : Rd w a [] := fun j v h => by simp at h
theorem osl.dep (v : Value) (E : TypeId) (sz n : Nat) (xs : List Value) : (osl v E sz n xs).dep := by
  intro w w' hk h
  refine ⟨h.1, ?_⟩
  rcases h.2 with hn | ⟨g, cap, cur, rfl, hb, hg, r⟩
  · exact .inl hn
  · refine .inr ⟨g, cap, cur, rfl, hb, ?_, r⟩
    rw [hk g rfl]; exact hg
theorem ownsRow_base {w : World} {base base' : Nat} {E : TypeId} {sz n : Nat} {v : Value} {xs : List Value} (h : w.ownsRow base E sz v n xs) (hb : ∀ k, v.ownBlock = some k → base' ≤ k) : w.ownsRow base' E sz v n xs := by
  refine ⟨h.1, ?_⟩
  rcases h.2 with hn | ⟨g, cap, cur, rfl, hb', r⟩
  · exact .inl hn
  · exact .inr ⟨g, cap, cur, rfl, hb g rfl, r⟩
theorem ownsRow_zero {w : World} {base : Nat} {E : TypeId} {sz n : Nat} {v : Value} {xs : List Value} (h : w.ownsRow base E sz v n xs) : w.ownsRow 0 E sz v n xs := ownsRow_base h (fun _ _ => Nat.zero_le _)
theorem ownsRow_rd {w : World} {base : Nat} {E : TypeId} {sz n c : Nat} {a : Option Addr} {xs : List Value} (h : w.ownsRow base E sz (.slice a n c) n xs) : Rd w a xs := by
  intro j v hj
  rcases h.2 with ⟨he, hn⟩ | ⟨g, cap, cur, he, _⟩
  · subst hn
    have := h.1
    simp only [Nat.zero_mul] at this
    rw [List.eq_nil_of_length_eq_zero this] at hj; simp at hj
  · simp only [Value.slice.injEq] at he
    obtain ⟨rfl, _, rfl⟩ := he
    exact ⟨_, rfl, World.ownsRow.cells h (g := g) rfl j v hj⟩

structure NewSl (w w' : World) (v : Value) (E : TypeId) (sz n : Nat) (xs : List Value) : Prop where
  grew : Grew w w'
  own : w'.ownsRow w.heap.size E sz v n xs

theorem St.newSl {w w' : World} {n : Nat} {E : TypeId} {sz : Nat} {xs : List Value} (h : St w0 F L w) (hn : NewSl w w' v E sz n xs) : St w0 F (osl v E sz n xs :: L) w' :=
  h.push hn.grew (ownsRow_zero hn.own) (fun k hk => hn.own.lt k hk) (osl.dep _ _ _ _ _)

theorem St.rd_of_own {w : World} {n : Nat} {E : TypeId} {sz c : Nat} {a : Option Addr} {xs : List Value} (h : St w0 F L w) (hm : osl (.slice a n c) E sz n xs ∈ L) : Rd w a xs := ownsRow_rd (h.holds _ hm)
theorem St.rd_of {w : World} {a : Option Addr} {xs : List Value} (h : St w0 F L w) (hm : rdA a xs ∈ L) : Rd w a xs := h.holds _ hm
theorem St.rd_of_blk {w : World} {b : Nat} {cs : List Value} {E : TypeId} {fr : Nat × Nat} (h : St w0 F L w) (hm : Asrt.own b (.cells cs.toArray E fr) ∈ L) : Rd w (some ⟨b, 0, none⟩) cs := fun j v hj =>
  ⟨_, rfl, by rw [addr_add, cell_own (h.own_at hm)]; simpa using hj⟩

theorem keep_of_grown {w w' : World} {row : Option Nat} (h : w.grownBy w' row) {F : Nat → Prop} (hF : ∀ k, row = some k → F k) : Keep F w w' :=
  ⟨h.os, h.tape, h.output, h.size, fun k hk hn => h.block k hk (fun e => hn (hF k e.symm)), fun _ h => (by cases h), fun _ h => (by cases h), fun _ h => (by cases h), List.Pairwise.nil, fun _ h => (by cases h)⟩

theorem slice_form {w : World} {base : Nat} {E : TypeId} {sz n : Nat} {xs : List Value} (h : w.ownsRow base E sz v n xs) : ∃ a c, v = .slice a n c := by
  rcases h.2 with ⟨rfl, rfl⟩ | ⟨g, cap, cur, rfl, _⟩
  · exact ⟨_, _, rfl⟩
  · exact ⟨_, _, rfl⟩

theorem run_append_any {E : TypeId} {sz by_ : Nat} (h : SliceOf P T E sz by_) (w : World) (ty : TypeId) {n m cx : Nat} {ax : Option Addr} {xs news : List Value} (hown : w.ownsRow 0 E sz v n xs)
    (hrd : Rd w ax news) (hnone : ax = none → m = 0 ∧ cx = 0) (hl : news.length = m * sz) (h1 : news.all Value.oneCell' = true) (hbytes : (n + m) * by_ ≤ 140737488355328) (hmax : n + m ≤ maxLen) :
    ∃ v' w', (Builtin.append_ #[T, T] ty #[v, .slice ax m cx]).run P w = .ok v' w' ∧ w'.ownsRow 0 E sz v' (n + m) (xs ++ news) ∧ w.grownBy w' v.ownBlock ∧ (v' = .slice none 0 0 ↔ v = .slice none 0 0 ∧ m = 0) ∧
      (∀ k, v'.ownBlock = some k → v.ownBlock = some k ∨ (w.heap.size ≤ k ∧ k < w'.heap.size)) := by
  have hinf := h.inf
  obtain ⟨z, hz, hzs⟩ := h.zero
  cases hi : P.info? E with
  | none => simp [hi] at hinf
  | some inf =>
    simp only [hi, Option.map_some, Option.some.injEq, Prod.mk.injEq] at hinf
    simp only [hi, Option.bind_some] at hz
    cases ax with
    | none =>
      obtain ⟨rfl, rfl⟩ := hnone rfl
      have hn : news = [] := List.eq_nil_of_length_eq_zero (by simpa using hl)
      subst hn
      have hr := run_append_owned_none (P := P) w 0 T ty E inf sz h.und hi v n xs hown
      exact ⟨v, w, hr, by simpa using hown, ⟨rfl, rfl, rfl, Nat.le_refl _, fun _ _ _ => rfl⟩, by simp, fun k hk => .inl hk⟩
    | some ad =>
      have hnews : ∀ j u, news[j]? = some u → w.cell? (ad.add j) = some u := fun j u hj => by
        obtain ⟨ad', ha', hc⟩ := hrd j u hj
        cases ha'; exact hc
      obtain ⟨rfl, rfl⟩ := hinf
      have h63 : n + m ≤ 9223372036854775807 := by simp only [maxLen] at hmax; omega
      have hlen : (xs ++ news).length = (n + m) * inf.size := by rw [List.length_append, hown.1, hl, Nat.add_mul]
      have grown : ∀ (old : Nat), old < n + m → ∀ (row : Option Nat),
          (w.drew.alloc (.cells (xs.toArray ++ news.toArray ++ Builtin.zeroCells z.cells (grownCap w (n + m) old E - (n + m))) E)).ownsRow 0 E inf.size
            (.slice (some ⟨w.heap.size, 0, none⟩) (n + m) (grownCap w (n + m) old E)) (n + m) (xs ++ news) ∧
          w.grownBy (w.drew.alloc (.cells (xs.toArray ++ news.toArray ++ Builtin.zeroCells z.cells (grownCap w (n + m) old E - (n + m))) E)) row := by
        intro old ho row
        have hge := grownCap_ge w (n + m) old E
        have hcm : grownCap w (n + m) old E ≤ maxLen := grownCap_le_maxLen w (n + m) old E hmax
        refine ⟨⟨hlen, .inr ⟨w.heap.size, _, _, rfl, Nat.zero_le _, heap_alloc_new w.drew _, hge, hcm, ?_, ?_⟩⟩, ⟨rfl, rfl, rfl, by simp, fun k hk _ => by first | exact heap_alloc_old w.drew _ hk | exact heap_alloc_old w.drew _ k hk⟩⟩
        · simp only [Array.size_append, List.size_toArray, size_zeroCells, hzs, hown.1, hl, ← Nat.add_mul]
          congr 1
          omega
        · simp only [Array.toList_append, List.append_assoc]
          rw [← List.append_assoc, ← hlen]
          exact List.take_left
      have fresh : ∀ (o : Obj) (c : Nat) (k : Nat), (Value.slice (some ⟨w.heap.size, 0, none⟩) (n + m) c).ownBlock = some k → v.ownBlock = some k ∨ (w.heap.size ≤ k ∧ k < (w.drew.alloc o).heap.size) := by
        intro o c k hk
        simp only [Value.ownBlock, Option.some.injEq] at hk
        subst hk
        exact .inr ⟨Nat.le_refl _, by simp⟩
      have h1' : ∀ u ∈ news, u.oneCell' = true := fun u hu => List.all_eq_true.1 h1 u hu
      rcases hown.2 with ⟨rfl, rfl⟩ | ⟨g, cap, cur, rfl, hbg, hg, hnc, hcm, hcs, htake⟩
      · have hx : xs = [] := List.eq_nil_of_length_eq_zero (by simpa using hown.1)
        subst hx
        by_cases hm : m = 0
        · subst hm
          have hn : news = [] := List.eq_nil_of_length_eq_zero (by simpa using hl)
          subst hn
          refine ⟨.slice none 0 0, w, ?_, World.ownsRow_nil w 0 E inf.size, ⟨rfl, rfl, rfl, Nat.le_refl _, fun _ _ _ => rfl⟩, by simp, fun k hk => by simp [Value.ownBlock] at hk⟩
          simp [Builtin.append_, run_underlying h.und, sizeOf, typeInfo, hi, Builtin.lenOf, Builtin.firstCells, loadCells, loadCellsFrom]
        · have hr := run_append_nil (P := P) w T ty E inf z h.und hi hz ad m cx news hl hnews (by omega) (by omega) (by have hb := hbytes; simp only [Nat.zero_add] at hb; omega)
          have hgr := grown 0 (by omega) (Value.ownBlock (.slice none 0 0))
          have hfr := fresh (.cells (#[] ++ news.toArray ++ Builtin.zeroCells z.cells (grownCap w (0 + m) 0 E - (0 + m))) E) (grownCap w (0 + m) 0 E)
          simp only [Nat.zero_add, List.nil_append, Array.empty_append] at hgr hfr ⊢
          exact ⟨_, _, hr, hgr.1, hgr.2, by simp [hm], hfr⟩
      · by_cases hroom : n + m ≤ cap
        · have hfit : n * inf.size + news.length ≤ cur.size := by rw [hl, hcs, ← Nat.add_mul]; exact Nat.mul_le_mul_right _ hroom
          have hr := run_append_room (P := P) w T ty E inf h.und hi g n cap cur hg ad m cx news hl hnews h1' hroom hfit
          refine ⟨_, _, hr, ⟨hlen, .inr ⟨g, cap, _, rfl, hbg, setRow_heap w g cur _ E _ hg, hroom, hcm, ?_, ?_⟩⟩, ⟨rfl, rfl, rfl, by simp, fun k _ hk => setRow_other w g k _ (fun e => hk (by simp [Value.ownBlock, e]))⟩, by simp, fun k hk => .inl hk⟩
          · simp only [List.size_toArray, List.length_append, List.length_take, List.length_drop, Array.length_toList]
            omega
          · rw [htake, ← hlen]
            exact List.take_left
        · have holds : ∀ j u, xs[j]? = some u → w.cell? ((⟨g, 0, none⟩ : Addr).add j) = some u := hown.cells (g := g) rfl
          have hr := run_append_grow (P := P) w T ty E inf z h.und hi hz ⟨g, 0, none⟩ n cap xs hown.1 holds ad m cx news hl hnews (by omega) (by omega) (growslice_fits (by omega) hbytes)
          have hgr := grown cap (by omega) (Value.ownBlock (.slice (some ⟨g, 0, none⟩) n cap))
          exact ⟨_, _, hr, hgr.1, hgr.2, by simp, fresh _ _⟩
end
end Go.Hb

namespace Go.Hb

theorem run_builtin_append {P : Program} {f : Frm} {T T' : TypeId} {s x : Operand} {dst : Option Tmp} {p : String} {af : Array Edge} {g : Option (Nat × Bool)} {v v' : Value} {w w' : World} (hs : f.ev s = v) {u : Value} (hx : f.ev x = u)
    (h : (Builtin.append_ #[T, T] T' #[v, u]).run P w = .ok v' w') : (execOp f.ev ⟨dst, .call ⟨.builtin .append, [s, x].toArray, [T, T].toArray⟩, T', p, af, g⟩).run P w = .ok (.value v') w' := by
  simp only [execOp, resolve, invoke, builtin, Sem.run_bind, Sem.run_pure, Result.andThen_ok, List.map_toArray, List.map_cons, List.map_nil, hs, hx, h]

section
variable {P : Program} {f : Frm} {T T' : TypeId} {s x y : Operand} {v : Value} {w0 : World} {F : Nat → Prop} {L : List Asrt} {C : World → Prop}
variable {n : Nat} {ops rest : List Oper} {Q : Post} {p : String} {af : Array Edge} {d : Nat}

theorem LR.append {E : TypeId} {sz by_ k c m cx : Nat} {a ax : Option Addr} {xs news : List Value} {L' : Option Addr → Nat → List Asrt} [h : SliceOf P T E sz by_]
    (hs : f.ev s = .slice a k c) (hx : f.ev x = .slice ax m cx) (hsel : ∀ a' c', Sel L (osl (.slice a k c) E sz k xs) (osl (.slice a' (k + m) c') E sz (k + m) (xs ++ news)) (L' a' c'))
    (hrd : ∀ w, St w0 F L w → Rd w ax news) (hnone : ax = none → m = 0 ∧ cx = 0) (hl : news.length = m * sz) (h1 : news.all Value.oneCell' = true) (hbytes : (k + m) * by_ ≤ 140737488355328) (hmax : k + m ≤ maxLen) (hd : Nat.blt d n = true)
    (kk : ∀ a' c', LR false P n ops rest Q (upd f d (.slice a' (k + m) c')) (St w0 F (L' a' c'))) :
    LR false P n ops (⟨some d, .call ⟨.builtin .append, [s, x].toArray, [T, T].toArray⟩, T', p, af, none⟩ :: rest) Q f (St w0 F L) := by
  intro w hw b hb
  refine wpList_plain rfl fun K hK => ?_
  have hown : w.ownsRow 0 E sz (.slice a k c) k xs := hw.holds _ (hsel none 0).mem
  obtain ⟨v', w', hr, ho, hg, _, hblk⟩ := run_append_any (P := P) h w T' hown (hrd w hw) hnone hl h1 hbytes hmax
  obtain ⟨a', c', rfl⟩ := slice_form ho
  have hr' := run_builtin_append (P := P) (T' := T') (dst := some d) (p := p) (af := af) (g := none) hs hx hr
  rw [← hb.eval] at hr'
  simp only [Oper.wp, hr', Oper.upon_value]
  refine hK _ _ (kk a' c' w' ?_ _ (hb.put _ hd))
  exact hw.turn (hsel a' c') rfl (keep_of_grown hg fun k hk => hk) ho (fun k hk => hblk k hk) (osl.dep _ _ _ _ _)

theorem LR.append_nil {E : TypeId} {sz by_ m cx : Nat} {ax : Option Addr} {news : List Value} [h : SliceOf P T E sz by_]
    (hs : f.ev s = .slice none 0 0) (hx : f.ev x = .slice ax m cx)
    (hrd : ∀ w, St w0 F L w → Rd w ax news) (hnone : ax = none → m = 0 ∧ cx = 0) (hl : news.length = m * sz) (h1 : news.all Value.oneCell' = true) (hbytes : m * by_ ≤ 140737488355328) (hmax : m ≤ maxLen) (hd : Nat.blt d n = true)
    (kk : ∀ a' c', LR false P n ops rest Q (upd f d (.slice a' m c')) (St w0 F (osl (.slice a' m c') E sz m news :: L))) :
    LR false P n ops (⟨some d, .call ⟨.builtin .append, [s, x].toArray, [T, T].toArray⟩, T', p, af, none⟩ :: rest) Q f (St w0 F L) := by
  intro w hw b hb
  refine wpList_plain rfl fun K hK => ?_
  have hown : w.ownsRow 0 E sz (.slice none 0 0) 0 [] := World.ownsRow_nil w 0 E sz
  obtain ⟨v', w', hr, ho, hg, _, hblk⟩ := run_append_any (P := P) h w T' hown (hrd w hw) hnone hl h1 (by simpa using hbytes) (by simpa using hmax)
  simp only [Nat.zero_add, List.nil_append] at ho
  obtain ⟨a', c', rfl⟩ := slice_form ho
  have hr' := run_builtin_append (P := P) (T' := T') (dst := some d) (p := p) (af := af) (g := none) hs hx hr
  rw [← hb.eval] at hr'
  simp only [Oper.wp, hr', Oper.upon_value]
  refine hK _ _ (kk a' c' w' ?_ _ (hb.put _ hd))
  refine hw.push (keep_of_grown hg fun k hk => by simp [Value.ownBlock] at hk) ho (fun k hk => ?_) (osl.dep _ _ _ _ _)
  rcases hblk k hk with hx | hx
  · simp [Value.ownBlock] at hx
  · exact hx

theorem St.own_osl {w : World} {b k sz : Nat} {cs : List Value} {E : TypeId} {L' : List Asrt} (h : St w0 F L w) (hs : Sel L (.own b (.cells cs.toArray E (0, 0))) (osl (.slice (some ⟨b, 0, none⟩) k k) E sz k cs) L')
    (hl : cs.length = k * sz) (hk : k ≤ maxLen) : St w0 F L' w := by
  refine h.turn hs rfl (St.refl w _) ?_ (fun j hj => ?_) (osl.dep _ _ _ _ _)
  · exact ⟨hl, .inr ⟨b, k, cs.toArray, rfl, Nat.zero_le _, h.own_at hs.mem, Nat.le_refl _, hk, by simpa using hl, by simp [List.take_of_length_le (Nat.le_of_eq hl)]⟩⟩
  · simp only [osl, Asrt.foot, Value.ownBlock, Option.some.injEq] at hj
    exact .inl hj.symm
theorem LR.own_osl {b k sz : Nat} {cs : List Value} {E : TypeId} {L' : List Asrt} {l : List Oper} (hs : Sel L (.own b (.cells cs.toArray E (0, 0))) (osl (.slice (some ⟨b, 0, none⟩) k k) E sz k cs) L')
    (hl : cs.length = k * sz) (hk : k ≤ maxLen) (kk : LR false P n ops l Q f (St w0 F L')) : LR false P n ops l Q f (St w0 F L) := LW.sub kk fun w hw => St.own_osl hw hs hl hk

def subA (a : Option Addr) (c l sz : Nat) : Option Addr := if c = l then a else a.map (·.add (l * sz))

theorem Rd.spot {w : World} {ad : Addr} {xs : List Value} (h : Rd w (some ad) xs) (hne : xs ≠ []) : ad.spot = none := by
  cases xs with
  | nil => exact (hne rfl).elim
  | cons v r =>
    obtain ⟨ad', he, hc⟩ := h 0 v rfl
    cases he
    have e : ad.add 0 = ad := by simp [Addr.add]
    rw [e] at hc
    cases hs : ad.spot with
    | none => rfl
    | some q => simp [World.cell?, hs] at hc; split at hc <;> cases hc
theorem Rd.form {w : World} {a : Option Addr} {xs : List Value} (h : Rd w a xs) (hne : xs ≠ []) : ∃ b o, a = some ⟨b, o, none⟩ := by
  cases a with
  | none =>
    cases xs with
    | nil => exact (hne rfl).elim
    | cons v r => obtain ⟨ad', he, _⟩ := h 0 v rfl; cases he
  | some ad =>
    have hs := h.spot hne
    obtain ⟨b, o, sp⟩ := ad
    simp only at hs
    subst hs
    exact ⟨b, o, rfl⟩
theorem Rd.cell {w : World} {b o : Nat} {xs : List Value} (h : Rd w (some ⟨b, o, none⟩) xs) {j : Nat} {v : Value} (hj : xs[j]? = some v) : w.cell? ⟨b, o + j, none⟩ = some v := by
  obtain ⟨ad, he, hc⟩ := h j v hj
  cases he
  rwa [addr_add] at hc
theorem Rd.drop {w : World} {a : Option Addr} {xs : List Value} {c l sz : Nat} (h : Rd w a xs) (hc : c = l → xs.length ≤ l * sz) : Rd w (subA a c l sz) (xs.drop (l * sz)) := by
  by_cases hne : xs = []
  · subst hne; simpa using Rd.nil w _
  · obtain ⟨b, o, rfl⟩ := h.form hne
    intro j v hj
    rw [List.getElem?_drop] at hj
    have hcell := h.cell hj
    unfold subA
    by_cases hcl : c = l
    · have := hc hcl
      have hlt := (List.getElem?_eq_some_iff.1 hj).1
      omega
    · rw [if_neg hcl]
      refine ⟨_, rfl, ?_⟩
      show w.cell? (((⟨b, o, none⟩ : Addr).add (l * sz)).add j) = some v
      rw [addr_add, addr_add, Nat.add_assoc]
      exact hcell
theorem Rd.take {w : World} {a : Option Addr} {xs : List Value} (k : Nat) (h : Rd w a xs) : Rd w a (xs.take k) := by
  intro j v hj
  rw [List.getElem?_take] at hj
  split at hj
  · exact h j v hj
  · cases hj

theorem size_of_slice {E : TypeId} {sz by_ : Nat} (h : SliceOf P T E sz by_) (w : World) : (sizeOf E).run P w = .ok sz w := by
  have hinf := h.inf
  cases hi : P.info? E with
  | none => simp [hi] at hinf
  | some inf =>
    simp only [hi, Option.map_some, Option.some.injEq, Prod.mk.injEq] at hinf
    simp [sizeOf, typeInfo, hi, hinf.1]

theorem Ev.slice_lo {E : TypeId} {sz by_ k c : Nat} {q : IntKind} {a : Option Addr} {i : Int} [h : SliceOf P T E sz by_] (hx : f.ev x = .slice a k c) (hy : f.ev y = .int q i) (h0 : 0 ≤ i) (h1 : i ≤ k) :
    Ev P C f (.slice T x (some y) none none) T' (.slice (subA a c i.toNat sz) (k - i.toNat) (c - i.toNat)) := fun w _ d p af g => by
  simp [execOp, hx, hy, Instr.sliceAt, Instr.slice, Instr.sliceBounds, Instr.sliceBound, asIntOf, run_underlying h.und, size_of_slice h, h0, h1, subA]
theorem Ev.slice_lohi {E : TypeId} {sz by_ k c : Nat} {q q' : IntKind} {a : Option Addr} {i j : Int} {z : Operand} [h : SliceOf P T E sz by_] (hx : f.ev x = .slice a k c) (hy : f.ev y = .int q i) (hz : f.ev z = .int q' j) (h0 : 0 ≤ i) (h1 : i ≤ j) (h2 : j ≤ c) :
    Ev P C f (.slice T x (some y) (some z) none) T' (.slice (subA a c i.toNat sz) (j.toNat - i.toNat) (c - i.toNat)) := fun w _ d p af g => by
  have h3 : i ≤ (j.toNat : Int) := by omega
  simp [execOp, hx, hy, hz, Instr.sliceAt, Instr.slice, Instr.sliceBounds, Instr.sliceBound, asIntOf, run_underlying h.und, size_of_slice h, h0, h2, show 0 ≤ j by omega, subA, show i ≤ max j 0 by omega]
end
section
variable {α : Type} {M : List Nat} {f g : Frm} {I : α → Prop} {vs : α → List (Nat × Value)} {D : α → World → Prop} {μ : α → Nat} {i : α} {Q : Post} {C : World → Prop}
theorem At.again (j : α) (hi : I j) (ho : Out M f g) (hh : Has g (vs j)) (hd : ∀ w, C w → D j w) (hm : μ j < μ i) : At (again M f I vs D μ i Q) .normal g C := fun w hw => ⟨j, hi, ho, hh, hd w hw, hm⟩
end

theorem St.addRd {w0 w : World} {F : Nat → Prop} {L : List Asrt} (h : St w0 F L w) {a : Option Addr} {xs : List Value} (hr : Rd w0 a xs) (hF : ∀ k, rdFoot a xs k → ¬ F k) : St w0 F (rdA a xs :: L) w :=
  h.old hr (fun k hk => ⟨hr.live k hk, hF k hk⟩) (Rd.dep a xs)
theorem St.rd1 {w : World} {a : Option Addr} {xs : List Value} (hr : Rd w a xs) : St w NoF [rdA a xs] w := (St.refl w NoF).addRd hr (fun _ _ h => h)
theorem St.rd2 {w : World} {a b : Option Addr} {xs ys : List Value} (hr : Rd w a xs) (hs : Rd w b ys) : St w NoF [rdA a xs, rdA b ys] w := ((St.refl w NoF).addRd hs (fun _ _ h => h)).addRd hr (fun _ _ h => h)

def bv (l : List Int) : List Value := l.map (Value.int .u8)
@[simp] theorem bv_length (l : List Int) : (bv l).length = l.length := by simp [bv]
theorem bv_get {l : List Int} {i : Nat} (h : i < l.length) : (bv l)[i]? = some (.int .u8 l[i]) := by simp [bv, h]
@[simp] theorem bv_nil : bv [] = [] := rfl
@[simp] theorem bv_append (l r : List Int) : bv (l ++ r) = bv l ++ bv r := by simp [bv]
@[simp] theorem bv_take (l : List Int) (k : Nat) : bv (l.take k) = (bv l).take k := by simp [bv, List.map_take]
@[simp] theorem bv_drop (l : List Int) (k : Nat) : bv (l.drop k) = (bv l).drop k := by simp [bv, List.map_drop]
theorem bv_at {l : List Int} {q i : Nat} (hq : q = i) (h : i < l.length) : (bv l)[q]? = some (.int .u8 (l[i]'h)) := by subst hq; exact bv_get h
theorem bv_one (l : List Int) : (bv l).all Value.oneCell' = true := by simp [bv, List.all_map, Function.comp_def, Value.oneCell']
def iv (l : List Int) : List Value := l.map (Value.int .i64)
@[simp] theorem iv_length (l : List Int) : (iv l).length = l.length := by simp [iv]
theorem iv_get {l : List Int} {i : Nat} (h : i < l.length) : (iv l)[i]? = some (.int .i64 l[i]) := by simp [iv, h]
section
variable {P : Program} {f : Frm} {T T' : TypeId} {x : Operand} {v : Value} {w0 : World} {F : Nat → Prop} {L : List Asrt}
theorem Ev.load_rd {b o q : Nat} {xs : List Value} [h : One P T] (hx : f.ev x = .pointer (some ⟨b, o + q, none⟩)) (hm : rdA (some ⟨b, o, none⟩) xs ∈ L) (hc : xs[q]? = some v) : Ev P (St w0 F L) f (.load T x) T' v :=
  Ev.load hx fun w hw => (hw.rd_of hm).cell hc
theorem Ev.load_osl {b o q k c sz : Nat} {E : TypeId} {xs : List Value} [h : One P T] (hx : f.ev x = .pointer (some ⟨b, o + q, none⟩)) (hm : osl (.slice (some ⟨b, o, none⟩) k c) E sz k xs ∈ L) (hc : xs[q]? = some v) : Ev P (St w0 F L) f (.load T x) T' v :=
  Ev.load hx fun w hw => (hw.rd_of_own hm).cell hc
end
section
variable {w0 w w' : World} {F : Nat → Prop} {R : List Asrt} {x y z : Asrt}
theorem St.merge (h : St w0 F (x :: y :: R) w) (hx : x.excl = true) (hy : y.excl = true) (hz : z.holds w) (hf : ∀ k, z.foot k → x.foot k ∨ y.foot k) (hd : z.dep) : St w0 F (z :: R) w := by
  obtain ⟨d1, d2⟩ := List.pairwise_cons.1 h.dis
  obtain ⟨d3, d4⟩ := List.pairwise_cons.1 d2
  refine ⟨h.os, h.tape, h.output, h.size, h.keep, ?_, ?_, ?_, ?_, ?_⟩
  · intro b hb; rcases List.mem_cons.1 hb with rfl | hb
    · exact hz
    · exact h.holds b (by simp [hb])
  · intro b hb; rcases List.mem_cons.1 hb with rfl | hb
    · intro k hk; rcases hf k hk with hk | hk
      · exact h.live x (by simp) k hk
      · exact h.live y (by simp) k hk
    · exact h.live b (by simp [hb])
  · intro b hb; rcases List.mem_cons.1 hb with rfl | hb
    · intro _ k hk hlt; rcases hf k hk with hk | hk
      · exact h.mine x (by simp) hx k hk hlt
      · exact h.mine y (by simp) hy k hk hlt
    · exact h.mine b (by simp [hb])
  · refine List.pairwise_cons.2 ⟨fun b hb _ k hk hk2 => ?_, d4⟩
    rcases hf k hk with hk | hk
    · exact d1 b (by simp [hb]) (by simp [hx]) k hk hk2
    · exact d3 b hb (by simp [hy]) k hk hk2
  · intro b hb; rcases List.mem_cons.1 hb with rfl | hb
    · exact hd
    · exact h.dep b (by simp [hb])
theorem St.split (h : St w0 F (z :: R) w) (hz : z.excl = true) (hx : x.holds w) (hy : y.holds w) (hfx : ∀ k, x.foot k → z.foot k) (hfy : ∀ k, y.foot k → z.foot k) (hdis : ∀ k, x.foot k → ¬ y.foot k) (dx : x.dep) (dy : y.dep) : St w0 F (x :: y :: R) w := by
  obtain ⟨d1, d2⟩ := List.pairwise_cons.1 h.dis
  refine ⟨h.os, h.tape, h.output, h.size, h.keep, ?_, ?_, ?_, ?_, ?_⟩
  · intro b hb; rcases List.mem_cons.1 hb with rfl | hb
    · exact hx
    · rcases List.mem_cons.1 hb with rfl | hb
      · exact hy
      · exact h.holds b (by simp [hb])
  · intro b hb; rcases List.mem_cons.1 hb with rfl | hb
    · exact fun k hk => h.live z (by simp) k (hfx k hk)
    · rcases List.mem_cons.1 hb with rfl | hb
      · exact fun k hk => h.live z (by simp) k (hfy k hk)
      · exact h.live b (by simp [hb])
  · intro b hb; rcases List.mem_cons.1 hb with rfl | hb
    · exact fun _ k hk hlt => h.mine z (by simp) hz k (hfx k hk) hlt
    · rcases List.mem_cons.1 hb with rfl | hb
      · exact fun _ k hk hlt => h.mine z (by simp) hz k (hfy k hk) hlt
      · exact h.mine b (by simp [hb])
  · refine List.pairwise_cons.2 ⟨fun b hb _ k hk hk2 => ?_, List.pairwise_cons.2 ⟨fun b hb _ k hk hk2 => ?_, d2⟩⟩
    · rcases List.mem_cons.1 hb with rfl | hb
      · exact hdis k hk hk2
      · exact d1 b hb (by simp [hz]) k (hfx k hk) hk2
    · exact d1 b hb (by simp [hz]) k (hfy k hk) hk2
  · intro b hb; rcases List.mem_cons.1 hb with rfl | hb
    · exact dx
    · rcases List.mem_cons.1 hb with rfl | hb
      · exact dy
      · exact h.dep b (by simp [hb])

structure Step (a a' : Asrt) (w w' : World) : Prop where
  keep : Keep a.foot w w'
  holds : a'.holds w'
  foot : ∀ k, a'.foot k → a.foot k ∨ (w.heap.size ≤ k ∧ k < w'.heap.size)
theorem St.one {a : Asrt} (hh : a.holds w) (hl : ∀ k, a.foot k → k < w.heap.size) (hd : a.dep) : St w a.foot [a] w :=
  ⟨rfl, rfl, rfl, Nat.le_refl _, fun _ _ _ => rfl, fun b hb => by simp at hb; subst hb; exact hh, fun b hb => by simp at hb; subst hb; exact hl, fun b hb _ k hk _ => by simp at hb; subst hb; exact hk, List.pairwise_singleton _ _, fun b hb => by simp at hb; subst hb; exact hd⟩
theorem St.step {a a' : Asrt} (h : St w a.foot (a' :: R) w') (he : a'.excl = true) : Step a a' w w' :=
  ⟨h.toKeep, h.holds a' (by simp), fun k hk => by
    by_cases hlt : k < w.heap.size
    · exact .inl (h.mine a' (by simp) he k hk hlt)
    · exact .inr ⟨by omega, h.live a' (by simp) k hk⟩⟩
theorem St.did {L L' : List Asrt} {a a' : Asrt} (h : St w0 F L w) (hs : Sel L a a' L') (he : a.excl = true) (st : Step a a' w w') (hd : a'.dep) : St w0 F L' w' := h.turn hs he st.keep st.holds st.foot hd
end
theorem LR.sub {P : Program} {n : Nat} {ops l : List Oper} {Q : Post} {f : Frm} {C D : World → Prop} (hs : ∀ w, C w → D w) (h : LR false P n ops l Q f D) : LR false P n ops l Q f C := LW.sub h hs
theorem At.sub {Q : Post} {e : Exit} {f : Frm} {C D : World → Prop} (hs : ∀ w, C w → D w) (h : At Q e f D) : At Q e f C := fun w hw => h w (hs w hw)
theorem LR.back {P : Program} {n : Nat} {ops l : List Oper} {Q : Post} {f : Frm} {C : World → Prop} {w : World} (hw : C w) (h : LR false P n ops l Q f C) : LW P n ops l Q f (fun u => u = w) := LW.sub h (fun _ e => e ▸ hw)
theorem St.toNew {w w' : World} {L : List Asrt} {v : Value} {E : TypeId} {sz n : Nat} {xs : List Value} (h : St w NoF L w') (hm : osl v E sz n xs ∈ L) : NewSl w w' v E sz n xs :=
  ⟨h.toKeep, ownsRow_base (h.holds _ hm) (fun k hk => Nat.le_of_not_lt fun hlt => h.mine _ hm rfl k hk hlt)⟩
theorem Rd.none_nil {w : World} {xs : List Value} (h : Rd w none xs) : xs = [] := by
  cases xs with
  | nil => rfl
  | cons v r => obtain ⟨ad, he, _⟩ := h 0 v rfl; cases he
theorem bv_eq_nil {l : List Int} (h : bv l = []) : l = [] := by cases l with | nil => rfl | cons b r => simp [bv] at h
theorem Rd.none_len {w : World} {a : Option Addr} {l : List Int} (h : Rd w a (bv l)) (ha : a = none) : l.length = 0 := by subst ha; rw [bv_eq_nil h.none_nil]; rfl
theorem NewSl.some_of {w w' : World} {a : Option Addr} {c n E sz : Nat} {xs : List Value} (h : NewSl w w' (.slice a n c) E sz n xs) : a = none → n = 0 ∧ c = 0 := by
  intro ha; subst ha
  rcases h.own.2 with ⟨he, hn⟩ | ⟨g, cap, cur, he, _⟩
  · simp only [Value.slice.injEq] at he; exact ⟨hn, he.2.2⟩
  · simp at he
theorem ownsRow_some {w : World} {base : Nat} {a : Option Addr} {c n E sz : Nat} {xs : List Value} (h : w.ownsRow base E sz (.slice a n c) n xs) : a = none → n = 0 ∧ c = 0 := by
  intro ha; subst ha
  rcases h.2 with ⟨he, hn⟩ | ⟨g, cap, cur, he, _⟩
  · simp only [Value.slice.injEq] at he; exact ⟨hn, he.2.2⟩
  · simp at he
theorem ownsRow_cap {w : World} {base : Nat} {a : Option Addr} {c n E sz : Nat} {xs : List Value} (h : w.ownsRow base E sz (.slice a n c) n xs) : n ≤ c := by
  rcases h.2 with ⟨he, hn⟩ | ⟨g, cap, cur, he, _, _, hnc, _⟩
  · omega
  · simp only [Value.slice.injEq] at he; omega
theorem St.cast {w0 w : World} {F : Nat → Prop} {L L' : List Asrt} (h : St w0 F L w) (e : L = L') : St w0 F L' w := e ▸ h
theorem St.tail1 {w0 w : World} {F : Nat → Prop} {L : List Asrt} {x : Asrt} (h : St w0 F (x :: L) w) : St w0 F L w := h.sub (List.sublist_cons_self x L)
theorem St.swap {w0 w : World} {F : Nat → Prop} {L : List Asrt} {x y : Asrt} (h : St w0 F (x :: y :: L) w) : St w0 F (y :: x :: L) w := by
  obtain ⟨d1, d2⟩ := List.pairwise_cons.1 h.dis
  obtain ⟨d3, d4⟩ := List.pairwise_cons.1 d2
  have hm : ∀ b, b ∈ y :: x :: L → b ∈ x :: y :: L := fun b hb => by simp at hb ⊢; rcases hb with h | h | h <;> simp [h]
  refine ⟨h.os, h.tape, h.output, h.size, h.keep, fun b hb => h.holds b (hm b hb), fun b hb => h.live b (hm b hb), fun b hb => h.mine b (hm b hb), ?_, fun b hb => h.dep b (hm b hb)⟩
  refine List.pairwise_cons.2 ⟨fun b hb hx k hk hk2 => ?_, List.pairwise_cons.2 ⟨fun b hb => d1 b (by simp [hb]), d4⟩⟩
  rcases List.mem_cons.1 hb with rfl | hb
  · exact d1 y (by simp) (by simpa [Bool.or_comm] using hx) k hk2 hk
  · exact d3 b hb hx k hk hk2
structure New1 (a : Asrt) (w w' : World) : Prop where
  grew : Grew w w'
  holds : a.holds w'
  foot : ∀ k, a.foot k → w.heap.size ≤ k ∧ k < w'.heap.size
theorem St.new1 {w w' : World} {R : List Asrt} {a : Asrt} (h : St w NoF (a :: R) w') (he : a.excl = true) : New1 a w w' :=
  ⟨h.toKeep, h.holds a (List.Mem.head _), fun k hk => ⟨Nat.le_of_not_lt fun hlt => h.mine a (List.Mem.head _) he k hk hlt, h.live a (List.Mem.head _) k hk⟩⟩
theorem St.got {w0 w w' : World} {F : Nat → Prop} {L : List Asrt} {a : Asrt} (h : St w0 F L w) (hn : New1 a w w') (hd : a.dep) : St w0 F (a :: L) w' := h.push hn.grew hn.holds hn.foot hd
theorem Out.mixs {M M2 : List Nat} {f f2 g : Frm} (hs : (M2.all fun t => M.contains t) = true) (h : Out M f f2) : Out M f (Hb.mix M2 g f2) := by
  intro t ht
  have : M2.contains t = false := by
    cases hx : M2.contains t with
    | false => rfl
    | true =>
      have := List.all_eq_true.1 hs t (by simpa using hx)
      rw [ht] at this; cases this
  simp only [Hb.mix, this, cond_false]
  exact h t ht
theorem St.did1 {w0 w w' : World} {F : Nat → Prop} {L L' R : List Asrt} {a a' b : Asrt} (h : St w0 F L w) (hs : Sel L a a' L') (he : a.excl = true) (he' : a'.excl = true) (hb : b.excl = true) (st : St w a.foot (a' :: b :: R) w') : St w0 F (b :: L') w' := by
  have hbm : b ∈ a' :: b :: R := List.Mem.tail _ (List.Mem.head _)
  have h' := h.did hs he (st.step he') (st.dep a' (List.Mem.head _))
  refine ⟨h'.os, h'.tape, h'.output, h'.size, h'.keep, ?_, ?_, ?_, ?_, ?_⟩
  · intro x hx; rcases List.mem_cons.1 hx with rfl | hx
    · exact st.holds _ hbm
    · exact h'.holds x hx
  · intro x hx; rcases List.mem_cons.1 hx with rfl | hx
    · exact st.live _ hbm
    · exact h'.live x hx
  · intro x hx; rcases List.mem_cons.1 hx with rfl | hx
    · intro _ k hk hlt
      exact h.mine a hs.mem he k (st.mine _ hbm hb k hk (Nat.lt_of_lt_of_le hlt h.size)) hlt
    · exact h'.mine x hx
  · refine List.pairwise_cons.2 ⟨fun x hx _ => ?_, h'.dis⟩
    refine hs.others h.dis he (fun x => ∀ k, b.foot k → ¬ x.foot k) (fun _ => True) (fun _ => True) ?_ ?_ x hx
    · obtain ⟨d1, _⟩ := List.pairwise_cons.1 st.dis
      exact fun k hk hk2 => d1 b (by simp) (by simp [he']) k hk2 hk
    · intro y hy hap k hk hk2
      by_cases hlt : k < w.heap.size
      · exact hap k (st.mine _ hbm hb k hk hlt) hk2
      · exact hlt (h.live y hy k hk2)
  · intro x hx; rcases List.mem_cons.1 hx with rfl | hx
    · exact st.dep _ hbm
    · exact h'.dep x hx
theorem St.osl_foot {a : Option Addr} {n c : Nat} {E sz : Nat} {xs : List Value} {k : Nat} (h : rdFoot a xs k) : (osl (.slice a n c) E sz n xs).foot k := by
  obtain ⟨_, ad, rfl, rfl⟩ := h; rfl
theorem St.perm {w0 w : World} {F : Nat → Prop} {L L' : List Asrt} (h : St w0 F L w) (hp : L.Perm L') : St w0 F L' w :=
  ⟨h.os, h.tape, h.output, h.size, h.keep, fun b hb => h.holds b (hp.mem_iff.2 hb), fun b hb => h.live b (hp.mem_iff.2 hb), fun b hb => h.mine b (hp.mem_iff.2 hb),
    (hp.pairwise_iff (fun {x y} hxy hx k hk hk2 => hxy (by simpa [Bool.or_comm] using hx) k hk2 hk)).1 h.dis, fun b hb => h.dep b (hp.mem_iff.2 hb)⟩
theorem St.rot {w0 w : World} {F : Nat → Prop} {x y z : Asrt} (h : St w0 F [x, y, z] w) : St w0 F [y, z, x] w := h.perm ((List.Perm.swap y x [z]).trans ((List.Perm.swap z x []).cons y))
theorem St.apart {w0 w : World} {F : Nat → Prop} {R : List Asrt} {x y : Asrt} (h : St w0 F (x :: R) w) (hy : y ∈ R) (he : (x.excl || y.excl) = true) : ∀ k, x.foot k → ¬ y.foot k :=
  (List.pairwise_cons.1 h.dis).1 y hy he
theorem LR.qcall_fn {P : Program} {m : Bool} {n : Nat} {ops rest : List Oper} {Q : Post} {f : Frm} {C : World → Prop} {T : TypeId} {p : String} {af : Array Edge} {d : Nat} {v : Value} {g : FuncId} {xs : List Operand} {ts : Array TypeId} {x : Operand}
    (hx : f.ev x = .func (.func g) #[] #[]) [own : Own P g] (hd : Nat.blt d n = true)
    (h : ∀ w, C w → CallsTo P g (xs.map f.ev) w fun u w' => u = v ∧ C w') (k : LR m P n ops rest Q (upd f d v) C) :
    LR m P n ops (⟨some d, .call ⟨.value x, xs.toArray, ts⟩, T, p, af, none⟩ :: rest) Q f C :=
  LR.qcall_val (cap := []) hx hd (by simpa using h) k
end Go.Hb

namespace Go.Hb

def only (K : Frm → World → Prop) : Post := fun e f w => e = .normal ∧ K f w
def lst (ops : List Oper) (done : List Nat) : Array Bool := done.foldl (fun l i => l.setIfInBounds i true) (Array.replicate ops.length false)
theorem lst_snoc (ops : List Oper) (done : List Nat) (i : Nat) : lst ops (done ++ [i]) = (lst ops done).setIfInBounds i true := by simp [lst]

section
variable {P : Program} {n : Nat} {ops : List Oper} {Q : Post} {f : Frm} {C S : World → Prop}

theorem wpAnyH_sub {md : Region.Mode} {opsA : Array Oper} {Q : Exit → Act → World → Prop} {S S' : World → Prop} (hs : ∀ w, S' w → S w) :
    ∀ (fuel : Nat) (listed : Array Bool) (a : Act) (w : World), wpAnyH P md opsA Q S' fuel listed a w → wpAnyH P md opsA Q S fuel listed a w
  | 0, _, _, _, h => h
  | fuel + 1, _, _, _, h => ⟨h.1, fun i hi => wpOp_mono (fun a' w' h' => ⟨hs _ h'.1, wpAnyH_sub hs fuel _ a' w' h'.2⟩) (h.2 i hi)⟩

def DW (P : Program) (n : Nat) (ops : List Oper) (Q : Post) (done : List Nat) (S : World → Prop) (f : Frm) (C : World → Prop) : Prop :=
  ∀ w, C w → ∀ a, Fits n a f → wpAnyH P .any ops.toArray (lift n (only fun f w => Q .normal f w)) S (ops.length - done.length) (lst ops done) a w

theorem CW.reg_held {id : Nat} (S : World → Prop) [hm : Mixed P] [hc : Drawn C] (h : DW P n ops Q [] S f C) : CW P n (.region id ops.toArray true) Q f C := by
  intro w hw a ha
  have h1 := h _ (hc.drew w hw) a ha
  have h2 := wp_region_held (id := id) hm.mixed (ops := ops.toArray) (by simpa [lst] using h1)
  refine Code.wp_mono (fun e a' w' hq => ?_) h2
  obtain ⟨f', hf', he, hq⟩ := hq
  subst he
  exact ⟨f', hf', hq⟩

theorem CW.reg_heldC {id : Nat} [hm : Mixed P] [hc : Drawn C] (h : DW P n ops Q [] C f C) : CW P n (.region id ops.toArray true) Q f C := CW.reg_held C h

def updO (f : Frm) (dst : Option Tmp) (v : Value) : Frm := match dst with | some d => upd f d v | none => f
def QL (P : Program) (n : Nat) (ops : List Oper) (S : World → Prop) (K : Frm → Prop) : List Nat → Frm → Prop
  | [], f => K f
  | i :: r, f => ∃ o v, ops[i]? = some o ∧ (∀ d, o.dst = some d → d < n) ∧ (∀ a, Fits n a f → YieldsIf P ops.toArray S o v a) ∧ QL P n ops S K r (updO f o.dst v)

theorem blt_lt {a b : Nat} (h : Nat.blt a b = true) : a < b := by simpa using h
def headB (ops : Array Oper) : Array Bool → List Nat → Bool
  | _, [] => true
  | l, i :: r => (Region.ready .any ops l).contains i && Region.free .any ops l i && headB ops (l.setIfInBounds i true) r

theorem Fits.putO {a : Act} {f : Frm} (h : Fits n a f) (dst : Option Tmp) (v : Value) (hd : ∀ d, dst = some d → d < n) : Fits n (a.put dst v) (updO f dst v) := by
  cases dst with
  | none => exact h
  | some d => exact h.put v (by have := hd d rfl; simpa using this)

theorem DW.quiet_aux : ∀ (H : List Nat) (done : List Nat) (f : Frm) (C : World → Prop), headB ops.toArray (lst ops done) H = true → Region.noSelect ops.toArray = true → done.length + H.length ≤ ops.length → (∀ w, C w → S w) →
    QL P n ops S (fun f' => DW P n ops Q (done ++ H) S f' C) H f → DW P n ops Q done S f C
  | [], done, f, C, _, _, _, _, h => by simpa [QL] using h
  | i :: r, done, f, C, hB, hs, hl, hS, h => by
    simp only [headB, Bool.and_eq_true] at hB
    obtain ⟨⟨h1, h2⟩, h3⟩ := hB
    obtain ⟨o, v, ho, hd, hy, hk⟩ := h
    have ih := DW.quiet_aux r (done ++ [i]) _ C (by rw [lst_snoc]; exact h3) hs (by simp only [List.length_append, List.length_cons, List.length_nil] at hl ⊢; omega) hS (by simpa using hk)
    intro w hw a ha
    have ih' := ih w hw _ (ha.putO o.dst v hd)
    have e : ops.length - done.length = (ops.length - (done ++ [i]).length) + 1 := by simp only [List.length_append, List.length_cons, List.length_nil] at hl ⊢; omega
    rw [e]
    rw [lst_snoc] at ih'
    exact wpAnyH_take (by simpa using ho) hs h2 h1 (fun c a w hq => by obtain ⟨_, _, he, _⟩ := hq; cases he) (hy a ha) (hS w hw) ih'
theorem DW.quiet (H : List Nat) {done : List Nat} (hB : (headB ops.toArray (lst ops done) H && Region.noSelect ops.toArray && Nat.ble (done.length + H.length) ops.length) = true) (hS : ∀ w, C w → S w)
    (h : QL P n ops S (fun f' => DW P n ops Q (done ++ H) S f' C) H f) : DW P n ops Q done S f C := by
  simp only [Bool.and_eq_true] at hB
  exact DW.quiet_aux H done f C hB.1.1 hB.1.2 (Nat.le_of_ble_eq_true hB.2) hS h

section
variable {K : Frm → Prop} {r : List Nat} {i j dj d : Nat} {op : Op} {T : TypeId} {p : String} {af : Array Edge} {v : Value} {b c : Bool}
theorem QL.nil (h : K f) : QL P n ops S K [] f := h
theorem QL.ev (hi : ops[i]? = some ⟨some d, op, T, p, af, none⟩) (he : Ev P S f op T v) (hd : Nat.blt d n = true) (k : QL P n ops S K r (upd f d v)) : QL P n ops S K (i :: r) f :=
  ⟨_, v, hi, fun d' e => by cases e; exact blt_lt hd, fun a ha => .inl ⟨rfl, fun w hw => by rw [ha.eval]; exact he w hw _ _ _ _⟩, k⟩
theorem QL.evg (hi : ops[i]? = some ⟨some d, op, T, p, af, some (j, b)⟩) (hj : (ops[j]?).bind (·.dst) = some dj) (hb : f dj = .bool b) (he : Ev P S f op T v) (hd : Nat.blt d n = true) (k : QL P n ops S K r (upd f d v)) : QL P n ops S K (i :: r) f :=
  ⟨_, v, hi, fun d' e => by cases e; exact blt_lt hd, fun a ha => .inl ⟨by simp only [Region.wanted]; rw [yielded_of ha hj, hb]; simp, fun w hw => by rw [ha.eval]; exact he w hw _ _ _ _⟩, k⟩
theorem QL.skip_of (hi : ops[i]? = some ⟨some d, op, T, p, af, some (j, b)⟩) (hj : (ops[j]?).bind (·.dst) = some dj) (hb : ∀ b', f dj = .bool b' → b' ≠ b) (hd : Nat.blt d n = true) (k : QL P n ops S K r (upd f d undef)) : QL P n ops S K (i :: r) f :=
  ⟨_, undef, hi, fun d' e => by cases e; exact blt_lt hd, fun a ha => .inr ⟨by refine Bool.eq_false_iff.2 ?_; simp only [Region.wanted]; rw [yielded_of ha hj]; intro he; have he := eq_of_beq he; split at he; (· rename_i b' hf; cases he; exact hb _ hf rfl); (· cases he), rfl⟩, k⟩
theorem QL.split (hi : ops[i]? = some ⟨some d, op, T, p, af, some (j, b)⟩) (_hj : (ops[j]?).bind (·.dst) = some dj) (hb : f dj = .bool c)
    (yes : c = true → QL P n ops S K (i :: r) (upd f dj (.bool true))) (no : c = false → QL P n ops S K (i :: r) (upd f dj (.bool false))) : QL P n ops S K (i :: r) f := by
  cases c with
  | true => have := yes rfl; rwa [upd_self hb] at this
  | false => have := no rfl; rwa [upd_self hb] at this
end

def dnext (P : Program) (n : Nat) (ops : List Oper) (Q : Post) (done : List Nat) (S : World → Prop) : Post :=
  only fun f' w' => ∃ S' C' : World → Prop, C' w' ∧ (∀ w, C' w → S' w) ∧ (∀ w, S' w → S w) ∧ DW P n ops Q done S' f' C'

theorem DW.loud (i : Nat) {done : List Nat} {o : Oper} (hi : ops[i]? = some o) (hr : ((match Region.ready .any ops.toArray (lst ops done) with | [j] => Nat.beq j i | _ => false) && Nat.blt done.length ops.length) = true)
    (h : LR false P n ops [o] (dnext P n ops Q (done ++ [i]) S) f C) : DW P n ops Q done S f C := by
  simp only [Bool.and_eq_true] at hr
  have hl : done.length < ops.length := blt_lt hr.2
  have hr1 : Region.ready .any ops.toArray (lst ops done) = [i] := by
    have := hr.1
    split at this
    · rename_i j he; rw [he, Nat.eq_of_beq_eq_true this]
    · cases this
  intro w hw a ha
  have e : ops.length - done.length = (ops.length - (done ++ [i]).length) + 1 := by simp only [List.length_append, List.length_cons, List.length_nil]; omega
  rw [e]
  refine wpAnyH_all hr1 (by simp) fun k hk => ?_
  have hk : k = i := by simpa using hk
  subst hk
  have h1 := h w hw a ha
  have ho : ops.toArray[k]? = some o := by simpa using hi
  unfold wpOp
  simp only [ho]
  simp only [wpList] at h1
  have conv : ∀ a' w', lift n (dnext P n ops Q (done ++ [k]) S) .normal a' w' → S w' ∧ wpAnyH P .any ops.toArray (lift n (only fun f w => Q .normal f w)) S (ops.length - (done ++ [k]).length) ((lst ops done).setIfInBounds k true) a' w' := by
    intro a' w' hq
    obtain ⟨f', hf', _, S', C', hC', hS', hSS, hD⟩ := hq
    refine ⟨hSS _ (hS' _ hC'), ?_⟩
    have := hD w' hC' a' hf'
    rw [lst_snoc] at this
    exact wpAnyH_sub hSS _ _ _ _ this
  split
  · rename_i hwn
    rw [if_pos hwn] at h1
    rcases h1 with h1 | ⟨_, a', w', f', hf', he, _⟩
    · refine .inl ?_
      have h2 := Oper.wp_mono conv h1
      unfold Oper.wp at h2 ⊢
      generalize (execOp a.eval o).run P w = r at *
      cases r with
      | ok nx w' =>
        cases nx <;> simp only [Oper.upon] at h2 ⊢
        case value => exact h2
        case skip => exact h2
        case defer => exact h2
        case enter g args =>
          refine Calls.mono h2 fun e w'' he => ?_
          cases e with
          | returned u => exact he
          | panicked c => obtain ⟨_, _, he, _⟩ := he; cases he
          | outgrown => obtain ⟨_, _, _, _, he, _⟩ := he; cases he
        case row => exact h2
      | halt x w' =>
        cases x <;> simp only [Oper.upon] at h2 ⊢
        case panic => obtain ⟨_, _, he, _⟩ := h2; cases he
    · cases he
  · rename_i hwn
    rw [if_neg hwn] at h1
    exact conv _ _ h1

theorem LR.stage {done : List Nat} {S S' : World → Prop} (hs : ∀ w, S' w → S w) (hc : ∀ w, C w → S' w) (h : DW P n ops Q done S' f C) : LR false P n ops [] (dnext P n ops Q done S) f C :=
  LR.nil fun w hw => ⟨rfl, S', C, hw, hc, hs, h⟩
theorem LR.stage_same {done : List Nat} {S : World → Prop} (hc : ∀ w, C w → S w) (h : DW P n ops Q done S f C) : LR false P n ops [] (dnext P n ops Q done S) f C := LR.stage (fun _ h => h) hc h
theorem LR.stage_any {done : List Nat} (h : DW P n ops Q done (fun _ => True) f C) : LR false P n ops [] (dnext P n ops Q done (fun _ => True)) f C := LR.stage_same (fun _ _ => trivial) h
theorem At.stage {done : List Nat} {S S' : World → Prop} (hs : ∀ w, S' w → S w) (hc : ∀ w, C w → S' w) (h : DW P n ops Q done S' f C) : At (dnext P n ops Q done S) .normal f C := fun w hw => ⟨rfl, S', C, hw, hc, hs, h⟩
theorem At.stage_same {done : List Nat} {S : World → Prop} (hc : ∀ w, C w → S w) (h : DW P n ops Q done S f C) : At (dnext P n ops Q done S) .normal f C := At.stage (fun _ h => h) hc h
theorem At.stage_any {done : List Nat} (h : DW P n ops Q done (fun _ => True) f C) : At (dnext P n ops Q done (fun _ => True)) .normal f C := At.stage_same (fun _ _ => trivial) h
theorem DW.done {done : List Nat} (hr : (Region.ready .any ops.toArray (lst ops done)).isEmpty = true) (h : At Q .normal f C) : DW P n ops Q done S f C :=
  fun w hw a ha => wpAnyH_done (List.isEmpty_iff.1 hr) ⟨f, ha, rfl, h w hw⟩ _
theorem DW.done_thn {y : Code} {done : List Nat} (hr : (Region.ready .any ops.toArray (lst ops done)).isEmpty = true) (h : CW P n y Q f C) : DW P n ops (thn P n y Q) done S f C := DW.done hr (At.thn h)
end
end Go.Hb

namespace Go.Hb

def both (x y : Asrt) : Asrt := .ex (fun k => x.foot k ∨ y.foot k) (fun w => x.holds w ∧ y.holds w ∧ (∀ k, x.foot k → ¬ y.foot k) ∧ (∀ k, x.foot k ∨ y.foot k → k < w.heap.size))

section
variable {w0 w w' : World} {F : Nat → Prop} {R : List Asrt} {x y x' y' : Asrt}
theorem lt_of_same {w w' : World} {k : Nat} (e : w'.heap[k]? = w.heap[k]?) (h : k < w.heap.size) : k < w'.heap.size := by
  rcases Nat.lt_or_ge k w'.heap.size with h' | h'
  · exact h'
  · rw [Array.getElem?_eq_none h', Array.getElem?_eq_getElem h] at e; cases e
theorem both_dep (dx : x.dep) (dy : y.dep) : (both x y).dep := by
  intro w w' hk ⟨h1, h2, h3, h4⟩
  exact ⟨dx w w' (fun k h => hk k (.inl h)) h1, dy w w' (fun k h => hk k (.inr h)) h2, h3, fun k h => lt_of_same (hk k h) (h4 k h)⟩
theorem both_live (h : (both x y).holds w) : ∀ k, (both x y).foot k → k < w.heap.size := h.2.2.2
theorem St.join (h : St w0 F (x :: y :: R) w) (hx : x.excl = true) (hy : y.excl = true) : St w0 F (both x y :: R) w := by
  refine h.merge hx hy ⟨h.holds x (by simp), h.holds y (by simp), (List.pairwise_cons.1 h.dis).1 y (by simp) (by simp [hx]), ?_⟩ (fun k hk => hk) (both_dep (h.dep x (by simp)) (h.dep y (by simp)))
  rintro k (hk | hk)
  · exact h.live x (by simp) k hk
  · exact h.live y (by simp) k hk
theorem St.part (h : St w0 F (both x y :: R) w) (dx : x.dep) (dy : y.dep) : St w0 F (x :: y :: R) w := by
  obtain ⟨h1, h2, h3, h4⟩ := h.holds (both x y) (List.Mem.head _)
  exact h.split rfl h1 h2 (fun k hk => .inl hk) (fun k hk => .inr hk) h3 dx dy

def Stores (P : Program) (T : TypeId) (ad : Addr) (v : Value) (x x' : Asrt) : Prop := ∀ w, x.holds w → ∃ w', (storeVar T ad v).run P w = .ok () w' ∧ Step x x' w w'

theorem Stores.own {P : Program} {T : TypeId} {m b o : Nat} {v : Value} {cs vs : List Value} {E : TypeId} (h : Sz P T m) (hv : v.cells = vs.toArray) (h1 : vs.all Value.oneCell' = true) (hm : vs.length = m) (hb : o + vs.length ≤ cs.length) :
    Stores P T ⟨b, o, none⟩ v (.own b (.cells cs.toArray E (0, 0))) (.own b (.cells (splice cs o vs).toArray E (0, 0))) := by
  intro w hg
  refine ⟨_, run_storeVar h w b o v vs cs E hv hm hg hb h1, ?_⟩
  exact ⟨Keep.setRow w b _ _ E hg rfl, setRow_heap w b _ _ E (0, 0) hg, fun k hk => .inl hk⟩
theorem Stores.left {P : Program} {T : TypeId} {ad : Addr} {v : Value} (h : Stores P T ad v x x') (dy : y.dep) : Stores P T ad v (both x y) (both x' y) := by
  intro w ⟨h1, h2, h3, h4⟩
  obtain ⟨w', hr, st⟩ := h w h1
  have same : ∀ k, y.foot k → w'.heap[k]? = w.heap[k]? := fun k hk => st.keep.keep k (h4 k (.inr hk)) (fun hx => h3 k hx hk)
  refine ⟨w', hr, ⟨⟨st.keep.os, st.keep.tape, st.keep.output, st.keep.size, fun k hk hn => st.keep.keep k hk (fun hx => hn (.inl hx)), fun _ h => (by cases h), fun _ h => (by cases h), fun _ h => (by cases h), List.Pairwise.nil, fun _ h => (by cases h)⟩, ⟨st.holds, dy w w' same h2, ?_, ?_⟩, ?_⟩⟩
  · intro k hk hk2
    rcases st.foot k hk with hk | hk
    · exact h3 k hk hk2
    · have := h4 k (.inr hk2); omega
  · rintro k (hk | hk)
    · rcases st.foot k hk with hk | hk
      · exact Nat.lt_of_lt_of_le (h4 k (.inl hk)) st.keep.size
      · exact hk.2
    · exact Nat.lt_of_lt_of_le (h4 k (.inr hk)) st.keep.size
  · rintro k (hk | hk)
    · rcases st.foot k hk with hk | hk
      · exact .inl (.inl hk)
      · exact .inr hk
    · exact .inl (.inr hk)
theorem both_flip {w : World} (h : (both x y).holds w) : (both y x).holds w := ⟨h.2.1, h.1, fun k hk hk2 => h.2.2.1 k hk2 hk, fun k hk => h.2.2.2 k (Or.symm hk)⟩
theorem Stores.right {P : Program} {T : TypeId} {ad : Addr} {v : Value} (h : Stores P T ad v y y') (dx : x.dep) : Stores P T ad v (both x y) (both x y') := by
  intro w hw
  obtain ⟨w', hr, st⟩ := (Stores.left (y := x) h dx) w (both_flip hw)
  refine ⟨w', hr, ⟨⟨st.keep.os, st.keep.tape, st.keep.output, st.keep.size, fun k hk hn => st.keep.keep k hk (fun hx => hn (Or.symm hx)), fun _ h => (by cases h), fun _ h => (by cases h), fun _ h => (by cases h), List.Pairwise.nil, fun _ h => (by cases h)⟩, both_flip st.holds, fun k hk => ?_⟩⟩
  rcases st.foot k (Or.symm hk) with hk | hk
  · exact .inl (Or.symm hk)
  · exact .inr hk
end

section
variable {P : Program} {f : Frm} {T T' : TypeId} {s x y : Operand} {v : Value} {w0 : World} {F : Nat → Prop} {L L' : List Asrt} {C : World → Prop}
variable {n : Nat} {ops rest : List Oper} {Q : Post} {p : String} {af : Array Edge} {d : Nat}
theorem LR.store_obj {ad : Addr} {z z' : Asrt} (hx : f.ev x = .pointer (some ad)) (hv : f.ev y = v) (hs : Sel L z z' L') (he : z.excl = true) (hst : Stores P T ad v z z') (hd : z'.dep)
    (k : LR false P n ops rest Q f (St w0 F L')) : LR false P n ops (⟨none, .store T x y, T', p, af, none⟩ :: rest) Q f (St w0 F L) := by
  intro w hw a ha
  refine wpList_plain rfl fun K hK => ?_
  obtain ⟨w', hr', st⟩ := hst w (hw.holds z hs.mem)
  have hr : (execOp a.eval ⟨none, .store T x y, T', p, af, none⟩).run P w = .ok .skip w' := by
    rw [ha.eval]
    simp only [execOp, hx, hv, Instr.storeAt, Instr.sureAddr, Sem.run_bind, Sem.run_pure, Result.andThen_ok, hr']
  simp only [Oper.wp, hr, Oper.upon_skip]
  exact hK _ _ (k _ (hw.did hs he st hd) _ (ha.put_none undef))

theorem made_flat (cs : List Value) (hc : 0 < cs.length) : ∀ m : Nat, (madeCells cs.toArray (m * cs.length)).toList = (List.replicate m cs).flatten := by
  intro m
  induction m with
  | zero => simp [madeCells]
  | succ m ih =>
    have e : (madeCells cs.toArray ((m + 1) * cs.length)).toList = (madeCells cs.toArray (m * cs.length)).toList ++ cs := by
      refine List.ext_getElem (by simp [Nat.succ_mul, size_madeCells]) fun i h1 h2 => ?_
      simp only [Array.getElem_toList, madeCells, Array.getElem_map, Array.getElem_range, Array.toList_map, Array.toList_range, List.size_toArray]
      have hi : i < (m + 1) * cs.length := by simpa [size_madeCells] using h1
      by_cases hlt : i < m * cs.length
      · rw [List.getElem_append_left (by simpa using hlt)]; simp
      · rw [List.getElem_append_right (by simpa using hlt)]
        have hmod : i % cs.length = i - m * cs.length := by
          have h3 : i = (i - m * cs.length) + cs.length * m := by rw [Nat.mul_comm cs.length m]; omega
          have h4 : i - m * cs.length < cs.length := by rw [Nat.succ_mul] at hi; omega
          rw [h3, Nat.add_mul_mod_self_left, Nat.mod_eq_of_lt h4, ← h3]
        have h5 : i - m * cs.length < cs.length := by rw [Nat.succ_mul] at hi; omega
        simp only [List.length_map, List.length_range]
        simp [hmod, h5]
    rw [e, ih, List.replicate_succ']
    simp

theorem LR.makeSlice {E : TypeId} {sz by_ m : Nat} {cs : List Value} {kl kc : IntKind} [h : SliceOf P T E sz by_] [hz : ZeroOf P E cs] (hx : f.ev x = .int kl (m : Int)) (hy : f.ev y = .int kc (m : Int)) (hb : by_ * m ≤ 281474976710656) (hm : m ≤ 281474976710656) (hl : Nat.beq cs.length sz = true) (hd : Nat.blt d n = true)
    (k : ∀ b, LR false P n ops rest Q (upd f d (.slice (some ⟨b, 0, none⟩) m m)) (St w0 F (.own b (.cells (List.replicate m cs).flatten.toArray E (0, 0)) :: L))) :
    LR false P n ops (⟨some d, .makeSlice T x y, T', p, af, none⟩ :: rest) Q f (St w0 F L) := by
  intro w hw a ha
  refine wpList_plain rfl fun K hK => ?_
  have hinf := h.inf
  have hpos := h.pos
  have hl' := Nat.eq_of_beq_eq_true hl
  obtain ⟨z, hzz, hzs⟩ := h.zero
  obtain ⟨z2, hz2, hzc⟩ := hz.zero
  cases hi : P.info? E with
  | none => simp [hi] at hinf
  | some inf =>
    simp only [hi, Option.map_some, Option.some.injEq, Prod.mk.injEq] at hinf
    simp only [hi, Option.bind_some] at hzz
    have e2 : z2 = z := by
      have := hz2 w
      simp [zeroValue, typeInfo, hi, hzz] at this
      exact this.symm
    subst e2
    have hb' : ((by_ * m : Nat) : Int) ≤ 281474976710656 := by omega
    have hr0 := run_make (P := P) w T E inf z2 h.und hi hzz kl kc (m : Int) (m : Int) (by omega) (by omega) (by rw [hinf.2, ← Int.natCast_mul]; exact hb') (by omega)
    have hr : (execOp a.eval ⟨some d, .makeSlice T x y, T', p, af, none⟩).run P w = .ok (.value (.slice (some ⟨w.heap.size, 0, none⟩) m m)) { w with heap := w.heap.push (.cells (List.replicate m cs).flatten.toArray E (0, 0)) } := by
      rw [ha.eval]
      have e3 : madeCells z2.cells (m * inf.size) = (List.replicate m cs).flatten.toArray := by
        rw [hzc, hinf.1, ← hl']
        exact Array.toList_inj.1 (by rw [made_flat cs (by omega)])
      simp only [Int.toNat_natCast, e3] at hr0
      simp only [execOp, hx, hy, Sem.run_bind, hr0, Result.andThen_ok, Sem.run_pure]
      rfl
    simp only [Oper.wp, hr, Oper.upon_value]
    exact hK _ _ (k w.heap.size _ (hw.alloc _) _ (ha.put _ hd))
end
end Go.Hb

namespace Go.Hb

class MapOf (P : Program) (T : TypeId) (q : outParam IntKind) (z : outParam Value) : Prop where
  ex : ∃ k e, P.underlying T = some (.map k e) ∧ P.underlying k = some (.int q) ∧ ∀ w, (zeroValue e).run P w = .ok z w

def ents (q : IntKind) : Nat → List (Int × Value) → List MapEntry
  | _, [] => []
  | n, x :: r => ⟨.int q x.1, x.2, n⟩ :: ents q (n + 1) r
theorem ents_snoc (q : IntKind) : ∀ (l : List (Int × Value)) (n : Nat) (x : Int × Value), ents q n (l ++ [x]) = ents q n l ++ [⟨.int q x.1, x.2, n + l.length⟩]
  | [], n, x => by simp [ents]
  | y :: r, n, x => by simp [ents, ents_snoc q r (n + 1) x]; omega
def mapObj (q : IntKind) (l : List (Int × Value)) : Obj := .map (ents q 0 l).toArray l.length
def findI (key : Int) : List (Int × Value) → Nat → Option (Nat × Value)
  | [], _ => none
  | x :: r, n => if key = x.1 then some (n, x.2) else findI key r (n + 1)
theorem findNow_ents (q : IntKind) (key : Int) : ∀ (l : List (Int × Value)) (m n : Nat), Instr.findNow (.int q) (.int q key) (ents q m l) n = some (findI key l n)
  | [], m, n => by simp [ents, Instr.findNow, findI]
  | x :: r, m, n => by
    have e : Instr.sameNow (.int q) (.int q key) (.int q x.1) = some (decide (key = x.1)) := by
      simp only [Instr.sameNow]
      congr 1
    simp only [ents, Instr.findNow, e, findI]
    by_cases h : key = x.1
    · simp [h]
    · simp [h, findNow_ents q key r (m + 1) (n + 1)]

theorem Keep.setObj (w : World) (r : Nat) (o : Obj) {F : Nat → Prop} (hF : F r) : Keep F w { w with heap := w.heap.setIfInBounds r o } :=
  ⟨rfl, rfl, rfl, by simp, fun k _ hk => by
    have : k ≠ r := fun e => hk (e ▸ hF)
    simp [Ne.symm this], fun _ h => (by cases h), fun _ h => (by cases h), fun _ h => (by cases h), List.Pairwise.nil, fun _ h => (by cases h)⟩

section
variable {P : Program} {n m : Nat} {f : Frm} {fn : Func} {K : Value → World → Prop} {w0 : World} {F : Nat → Prop} {L : List Asrt} {t u : Tmp} {T : TypeId} {b : Nat} {cs : List Value} {E : TypeId} {fr : Nat × Nat}
theorem load_own_all (h : Agg P T m) {w : World} (hb : w.heap[b]? = some (.cells cs.toArray E fr)) (hl : cs.length = m) : (loadVar T ⟨b, 0, none⟩).run P w = .ok (.agg cs.toArray) w :=
  run_load_agg h hl fun j v hj => by rw [addr_add, cell_own hb]; simpa using hj
theorem ret1c (hr : fn.results = #[.cell t T]) (h : Agg P T m) (hp : f t = .pointer (some ⟨b, 0, none⟩)) (hm : Asrt.own b (.cells cs.toArray E fr) ∈ L) (hl : Nat.beq cs.length m = true) (hk : ∀ w, St w0 F L w → K (.agg cs.toArray) w) :
    At (finK P fn n K) .ret f (St w0 F L) := by
  intro w hw a ha
  refine bodyPost_ret (v := .agg cs.toArray) ?_ ha.1 ⟨_, rfl, hk w hw⟩
  have hld := load_own_all (P := P) h (hw.own_at hm) (Nat.eq_of_beq_eq_true hl)
  have hp' : a.tmps.getD t undef = .pointer (some ⟨b, 0, none⟩) := by rw [ha.2.2]; exact hp
  simp [results, hr, hp', asAddr, hld, -Array.getD_eq_getD_getElem?]
theorem ret2c (hr : fn.results = #[.cell t T, .tmp u]) (h : Agg P T m) (hp : f t = .pointer (some ⟨b, 0, none⟩)) (hm : Asrt.own b (.cells cs.toArray E fr) ∈ L) (hl : Nat.beq cs.length m = true) (hk : ∀ w, St w0 F L w → K (.tuple [.agg cs.toArray, f u].toArray) w) :
    At (finK P fn n K) .ret f (St w0 F L) := by
  intro w hw a ha
  refine bodyPost_ret (v := .tuple #[.agg cs.toArray, f u]) ?_ ha.1 ⟨_, rfl, hk w hw⟩
  have hld := load_own_all (P := P) h (hw.own_at hm) (Nat.eq_of_beq_eq_true hl)
  have hp' : a.tmps.getD t undef = .pointer (some ⟨b, 0, none⟩) := by rw [ha.2.2]; exact hp
  have hu' : a.tmps.getD u undef = f u := ha.2.2 u
  simp [results, hr, hp', hu', asAddr, hld, -Array.getD_eq_getD_getElem?]
end
section
variable {P : Program} {f : Frm} {T T' : TypeId} {x y z : Operand} {v zv : Value} {w0 : World} {F : Nat → Prop} {L L' : List Asrt}
variable {n : Nat} {ops rest : List Oper} {Q : Post} {p : String} {af : Array Edge} {d : Nat} {q : IntKind}
theorem LR.makeMap [h : MapOf P T q zv] (hd : Nat.blt d n = true) (k : ∀ b, LR false P n ops rest Q (upd f d (.map (some b))) (St w0 F (.own b (mapObj q []) :: L))) :
    LR false P n ops (⟨some d, .makeMap T none, T', p, af, none⟩ :: rest) Q f (St w0 F L) := by
  intro w hw a ha
  refine wpList_plain rfl fun K hK => ?_
  have hr : (execOp a.eval ⟨some d, .makeMap T none, T', p, af, none⟩).run P w = .ok (.value (.map (some w.heap.size))) { w with heap := w.heap.push (mapObj q []) } := by
    simp [execOp, Instr.makeMap, newObj, Sem.run, mapObj, ents]
  simp only [Oper.wp, hr, Oper.upon_value]
  exact hK _ _ (k w.heap.size _ (hw.alloc _) _ (ha.put _ hd))

theorem LR.insert {b : Nat} {l : List (Int × Value)} {key : Int} [h : MapOf P T q zv] (hx : f.ev x = .map (some b)) (hy : f.ev y = .int q key) (hz : f.ev z = v)
    (hs : Sel L (.own b (mapObj q l)) (.own b (mapObj q (l ++ [(key, v)]))) L') (hnew : (findI key l 0).isNone = true)
    (k : LR false P n ops rest Q f (St w0 F L')) : LR false P n ops (⟨none, .insert T x y z, T', p, af, none⟩ :: rest) Q f (St w0 F L) := by
  intro w hw a ha
  refine wpList_plain rfl fun K hK => ?_
  obtain ⟨kt, et, ht, hk, _⟩ := h.ex
  have hb : w.heap[b]? = some (.map (ents q 0 l).toArray l.length) := hw.own_at hs.mem
  have hfind : (Instr.findKey kt (.int q key) (ents q 0 l)).run P w = .ok none w := by
    refine MapKept.run_findKey hk ?_
    rw [findNow_ents]
    cases hf : findI key l 0 with
    | none => rfl
    | some r => rw [hf] at hnew; cases hnew
  have hr : (execOp a.eval ⟨none, .insert T x y z, T', p, af, none⟩).run P w = .ok .skip { w with heap := w.heap.setIfInBounds b (mapObj q (l ++ [(key, v)])) } := by
    rw [ha.eval]
    have e : Obj.map ((ents q 0 l).toArray.push ⟨.int q key, v, l.length⟩) (l.length + 1) = mapObj q (l ++ [(key, v)]) := by
      simp [mapObj, ents_snoc]
    simp only [execOp, hx, hy, hz, Instr.mapUpdate, Sem.run_bind, run_underlying ht, Result.andThen_ok, MapKept.run_getObj_map hb, MapKept.run_checkKey (k := .int q key) hk (by rfl) _ 9999, hfind, MapKept.run_setObj_map _ hb, e, Sem.run_pure]
  simp only [Oper.wp, hr, Oper.upon_skip]
  have hsz : b < w.heap.size := (Array.getElem?_eq_some_iff.1 hb).1
  refine hK _ _ (k _ ?_ _ (ha.put_none undef))
  exact hw.turn hs rfl (Keep.setObj w b _ rfl) (by show (w.heap.setIfInBounds b _)[b]? = _; simp [hsz]) (fun k hk => .inl hk) (Asrt.dep_own _ _)

theorem Ev.lookup_ok {b : Nat} {l : List (Int × Value)} {key : Int} {r : Option (Nat × Value)} [h : MapOf P T q zv] (hx : f.ev x = .map (some b)) (hy : f.ev y = .int q key) (hm : .own b (mapObj q l) ∈ L) (hr : findI key l 0 = r) :
    Ev P (St w0 F L) f (.lookup T x y true) T' (.tuple [(r.map Prod.snd).getD zv, .bool r.isSome].toArray) := fun w hw d p af g => by
  obtain ⟨kt, et, ht, hk, hz⟩ := h.ex
  have hb : w.heap[b]? = some (.map (ents q 0 l).toArray l.length) := hw.own_at hm
  have hfind : (Instr.findKey kt (.int q key) (ents q 0 l)).run P w = .ok r w := by
    refine MapKept.run_findKey hk ?_
    rw [findNow_ents, hr]
  cases r with
  | none => simp [execOp, hx, hy, Instr.lookup, run_underlying ht, MapKept.run_getObj_map hb, MapKept.run_checkKey (k := .int q key) hk (by rfl) _ 9999, hfind, hz, Result.andThen]
  | some s => simp [execOp, hx, hy, Instr.lookup, run_underlying ht, MapKept.run_getObj_map hb, MapKept.run_checkKey (k := .int q key) hk (by rfl) _ 9999, hfind, Result.andThen]
end
end Go.Hb

namespace Go.Hb
open Go.ChangeShapes Go.WideShapes

def Opn (P : Program) (t : TypeId) (G : World → List Value → Prop) : Prop :=
  ∀ (H : Type) (enc : TypeId × Value → H) (w : World) (base fuel : Nat) (cs : List Value) (x : DataW H × List MemPlace),
    DataW.trod enc P w base (fun _ => true) true fuel t cs = some x → (∀ y ∈ x.1.weights P t, y ≤ reachBytes) → G w cs

section
variable {P : Program} {t e : TypeId}
theorem Opn.mono {G G' : World → List Value → Prop} (h : Opn P t G) (hg : ∀ w cs, G w cs → G' w cs) : Opn P t G' := fun H enc w base fuel cs x hx hw => hg w cs (h H enc w base fuel cs x hx hw)
end

theorem CallsTo.calls {P : Program} {g : FuncId} {args : List Value} {w : World} {K : Value → World → Prop} {R : Ending → World → Prop} (h : CallsTo P g args w K) (hk : ∀ v w', K v w' → R (.returned v) w') : Calls P g args.toArray w R :=
  Calls.mono h fun _ _ ⟨v, he, hv⟩ => by subst he; exact hk v _ hv

theorem Grew.keptBut {W W' : World} (h : Grew W W') (may : MemPlace → Prop) : W.keptBut W' may := by
  refine ⟨h.os, h.output, fun i hi => ?_⟩
  rw [h.keep i hi (fun x => x)]
  cases W.heap[i]? with
  | none => rfl
  | some o => cases o <;> simp
theorem Grew.sameAt {W W' : World} (h : Grew W W') (p : MemPlace) (hp : p.block < W.heap.size) : W.sameAt W' p := by
  have hk := h.keep p.block hp (fun x => x)
  cases p with
  | cell b off => simp only [World.sameAt, World.cell?]; simp only [MemPlace.block] at hk; rw [hk]
  | map b => exact hk

section
variable {H : Type} {enc : TypeId × Value → H} {P : Program}
theorem trodAll_grew (K : Kids P (· < P.types.size)) (hz : ∀ t e, t < P.types.size → P.underlying t = some (.slice e) → 0 < P.cellsOf e) {W W' : World} (hg : Grew W W') {sp : Nat → Bool} : ∀ {ts : List TypeId} {vs : List Value} {ds : List (DataW H)} {ps : List MemPlace},
    (∀ t ∈ ts, t < P.types.size) → (∀ p ∈ ps, p.block < W.heap.size) → (∀ p ∈ ps, sp p.block = true) → DataW.TrodAll enc P W 0 (fun _ => true) true ts vs ds ps → DataW.TrodAll enc P W' 0 sp true ts vs ds ps
  | [], [], [], _, _, _, _, h => h
  | t :: ts, v :: vs, d :: ds, ps, hT, hlt, hsp, ⟨p, q, h1, h2, e⟩ => by
    subst e
    refine ⟨p, q, ?_, trodAll_grew K hz hg (fun t ht => hT t (List.mem_cons_of_mem _ ht)) (fun x hx => hlt x (List.mem_append_right _ hx)) (fun x hx => hsp x (List.mem_append_right _ hx)) h2, rfl⟩
    obtain ⟨n, hn⟩ := h1
    exact ⟨n, DataW.trod_stays K (fun {t e} a b => hz t e a b) (fun h => by cases h) (hT t (List.mem_cons_self)) hn (fun x hx => hg.sameAt x (hlt x (List.mem_append_left _ hx))) (fun x hx => hsp x (List.mem_append_left _ hx))⟩

theorem law_post (K : Kids P (· < P.types.size)) (hz : ∀ t e, t < P.types.size → P.underlying t = some (.slice e) → 0 < P.cellsOf e) {f : Func} {s : ChangeSpec} {apart fresh handsOn : Bool} {W W' : World} {args : Array Value} {ds gs : List (DataW H)} {before : List MemPlace} {tb : TypeId}
    (hW : DataW.Whole enc P f.params.toList s.vars apart W args.toList ds gs before) (hg : Grew W W') (hv : s.vars = []) (hs : s.fn H (ds ++ gs) = { results := [.lit (.bool true)], args := ds })
    (hr : f.resultTypes = #[tb]) (hb : P.underlying tb = some .bool) (hT : ∀ t ∈ f.params.toList, t < P.types.size) : s.post enc P f apart fresh handsOn false W args (.bool true) W' := by
  have hlt := hW.lt
  have hW0 := hW
  obtain ⟨p, q, hA, hV, rfl, hfz, hnd⟩ := hW0
  rw [hv] at hV
  obtain ⟨rfl, rfl⟩ := trodVars_none hV
  simp only [List.append_nil] at *
  have hres : ∀ (b : Nat) (sp : Nat → Bool) (hd : Bool), DataW.TrodAll enc P W' b sp hd [tb] [Value.bool true] [.lit (.bool true)] [] := fun b sp hd => trodAll_mk1 ⟨1, by simp [DataW.trod, Value.cells, hb]⟩
  have hrl : (Value.bool true).resultList f.resultTypes.size = [Value.bool true] := by rw [hr]; rfl
  refine ⟨ds, [], p, [], p, [], hW, ?_, ?_, ?_, ?_, fun h => by cases h⟩
  · simp only [List.append_nil, hs, hr]; exact hres _ _ _
  · simp only [List.append_nil, hs]; exact trodAll_grew K hz hg hT hlt (fun x hx => by simpa using hlt x hx) hA
  · simp only [List.append_nil, hs, hv]; rfl
  · exact hg.keptBut _
end
end Go.Hb

namespace Go.Hb

theorem mH {α : Type} (a : α) (l : List α) : a ∈ a :: l := List.Mem.head l
theorem mT {α : Type} {a : α} (b : α) {l : List α} (h : a ∈ l) : a ∈ b :: l := List.Mem.tail b h
theorem sH (a a' : Asrt) (L : List Asrt) : Sel (a :: L) a a' (a' :: L) := Sel.head a a' L
theorem sT {L L' : List Asrt} {a a' : Asrt} (x : Asrt) (h : Sel L a a' L') : Sel (x :: L) a a' (x :: L') := Sel.tail x h

section
variable {w0 w : World} {F : Nat → Prop} {R : List Asrt} {a b0 b1 b2 b3 b4 b5 b6 : Asrt}
theorem St.g0 (h : St w0 F (a :: R) w) : a.holds w := h.holds _ (mH _ _)
theorem St.g1 (h : St w0 F (b0 :: a :: R) w) : a.holds w := h.holds _ (mT _ (mH _ _))
theorem St.g2 (h : St w0 F (b0 :: b1 :: a :: R) w) : a.holds w := h.holds _ (mT _ (mT _ (mH _ _)))
theorem St.g3 (h : St w0 F (b0 :: b1 :: b2 :: a :: R) w) : a.holds w := h.holds _ (mT _ (mT _ (mT _ (mH _ _))))
theorem St.g4 (h : St w0 F (b0 :: b1 :: b2 :: b3 :: a :: R) w) : a.holds w := h.holds _ (mT _ (mT _ (mT _ (mT _ (mH _ _)))))
end
def lookV : Value → Option Value
  | .bool b => some (.bool b)
  | .int k n => some (.int k n)
  | .pointer a => some (.pointer a)
  | .slice a l c => some (.slice a l c)
  | .map r => some (.map r)
  | .func g a b => some (.func g a b)
  | .nilFunc => some .nilFunc
  | .agg cs => some (.agg cs)
  | .tuple cs => some (.tuple cs)
  | _ => none
theorem lookV_eq {v u : Value} (h : lookV v = some u) : v = u := by cases v <;> simp [lookV] at h <;> exact h

def sameK : (k k' : IntKind) → Option (PLift (k = k'))
  | .i8, .i8 => some ⟨rfl⟩ | .i16, .i16 => some ⟨rfl⟩ | .i32, .i32 => some ⟨rfl⟩ | .i64, .i64 => some ⟨rfl⟩
  | .u8, .u8 => some ⟨rfl⟩ | .u16, .u16 => some ⟨rfl⟩ | .u32, .u32 => some ⟨rfl⟩ | .u64, .u64 => some ⟨rfl⟩
  | _, _ => none
def cmpV (op : BinOp) (k : IntKind) (a b : Int) : Option Value :=
  match op with
  | .eql => some (.bool (decide (a = b)))
  | .neq => some (.bool (!decide (a = b)))
  | .lss => some (.bool (decide (a < b)))
  | .leq => some (.bool (decide (a ≤ b)))
  | .gtr => some (.bool (decide (b < a)))
  | .geq => some (.bool (decide (b ≤ a)))
  | .and => some (.int k (andI k a b))
  | .or => some (.int k (orI k a b))
  | .xor => some (.int k (xorI k a b))
  | .andNot => some (.int k (andNotI k a b))
  | _ => none
def binV (op : BinOp) : Value → Value → Option Value
  | .int k a, .int k' b => match sameK k k' with | some _ => cmpV op k a b | none => none
  | _, _ => none
def evV (f : Frm) : Op → Option Value
  | .move x => lookV (f.ev x)
  | .assign x => lookV (f.ev x)
  | .pick c a b => match f.ev c with | .bool true => lookV (f.ev a) | .bool false => lookV (f.ev b) | _ => none
  | .binOp op _ x y _ => binV op (f.ev x) (f.ev y)
  | .unOp .not _ x => match f.ev x with | .bool b => some (.bool (!b)) | _ => none
  | .nilCheck x => match f.ev x with | .pointer (some a) => some (.pointer (some a)) | _ => none
  | .extract x i => match f.ev x with | .tuple cs => (cs.toList[i]?).bind lookV | _ => none
  | .makeFunc fn xs ys => some (.func fn (xs.toList.map f.ev).toArray (ys.toList.map f.ev).toArray)
  | _ => none

section
variable {P : Program} {C : World → Prop} {f : Frm} {T T' T'' : TypeId} {x y z : Operand} {v : Value}
theorem binV_sound {op : BinOp} (h : binV op (f.ev x) (f.ev y) = some v) : Ev P C f (.binOp op T' x y T'') T v := by
  cases hx : f.ev x <;> cases hy : f.ev y <;> simp only [hx, hy, binV, reduceCtorEq] at h
  rename_i k a k' b
  split at h
  · rename_i e _
    have e := e.down
    subst e
    cases op <;> simp only [cmpV, Option.some.injEq, reduceCtorEq] at h <;> subst h
    · exact Ev.and hx hy
    · exact Ev.or hx hy
    · exact Ev.xor hx hy
    · exact Ev.andNot hx hy
    · exact Ev.eql hx hy
    · exact Ev.neq hx hy
    · exact Ev.lss hx hy
    · exact Ev.leq hx hy
    · exact Ev.gtr hx hy
    · exact Ev.geq hx hy
  · cases h
theorem evV_sound {op : Op} (h : evV f op = some v) : Ev P C f op T v := by
  cases op with
  | move x => exact Ev.moveV (lookV_eq h)
  | assign x => exact Ev.assignV (lookV_eq h)
  | pick c a b =>
    simp only [evV] at h
    split at h
    · rename_i hc; exact lookV_eq h ▸ Ev.pick_t hc
    · rename_i hc; exact lookV_eq h ▸ Ev.pick_f hc
    · cases h
  | binOp op t x y t' => exact binV_sound h
  | unOp op t x =>
    cases op with
    | not =>
      simp only [evV] at h
      split at h
      · rename_i hc; cases h; exact Ev.not hc
      · cases h
    | _ => cases h
  | nilCheck x =>
    simp only [evV] at h
    split at h
    · rename_i hc; cases h; exact Ev.nilCheck hc
    · cases h
  | extract x i =>
    simp only [evV] at h
    split at h
    · rename_i cs hc
      obtain ⟨l⟩ := cs
      obtain ⟨u, hu, hl⟩ := Option.bind_eq_some_iff.1 h
      exact lookV_eq hl ▸ Ev.extract hc hu
    · cases h
  | makeFunc fn xs ys =>
    cases h
    exact Ev.makeFunc (xs := xs.toList) (ys := ys.toList)
  | _ => cases h
end

class EqOf (P : Program) (T : TypeId) (e : outParam (Value → Value → Option Bool)) : Prop where
  eq : ∀ {C : World → Prop} {f : Frm} {T1 T2 : TypeId} {x y : Operand} {b : Bool}, e (f.ev x) (f.ev y) = some b → Ev P C f (.binOp .eql T x y T2) T1 (.bool b)
  ne : ∀ {C : World → Prop} {f : Frm} {T1 T2 : TypeId} {x y : Operand} {b : Bool}, e (f.ev x) (f.ev y) = some b → Ev P C f (.binOp .neq T x y T2) T1 (.bool (!b))
def eqBool : Value → Value → Option Bool
  | .bool a, .bool b => some (a == b)
  | _, _ => none
def eqPtr : Value → Value → Option Bool
  | .pointer a, .pointer none => some a.isNone
  | _, _ => none
def eqSl : Value → Value → Option Bool
  | .slice a _ _, .slice none 0 0 => some a.isNone
  | _, _ => none
def eq2V : Value → Value → Option Bool
  | .agg ⟨[.int .i64 a, .int .i64 b]⟩, .agg ⟨[.int .i64 a', .int .i64 b']⟩ => some (decide ([a, b] = [a', b']))
  | _, _ => none
def eq4V : Value → Value → Option Bool
  | .agg ⟨[.int .i64 a, .int .i64 b, .int .i64 c, .int .i64 d]⟩, .agg ⟨[.int .i64 a', .int .i64 b', .int .i64 c', .int .i64 d']⟩ => some (decide ([a, b, c, d] = [a', b', c', d']))
  | _, _ => none
theorem eqBool_inv {v u : Value} {b : Bool} (h : eqBool v u = some b) : ∃ x y, v = .bool x ∧ u = .bool y ∧ b = (x == y) := by
  unfold eqBool at h; split at h
  · cases h; exact ⟨_, _, rfl, rfl, rfl⟩
  · cases h
theorem eqPtr_inv {v u : Value} {b : Bool} (h : eqPtr v u = some b) : ∃ x, v = .pointer x ∧ u = .pointer none ∧ b = x.isNone := by
  unfold eqPtr at h; split at h
  · cases h; exact ⟨_, rfl, rfl, rfl⟩
  · cases h
theorem eqSl_inv {v u : Value} {b : Bool} (h : eqSl v u = some b) : ∃ x l c, v = .slice x l c ∧ u = .slice none 0 0 ∧ b = x.isNone := by
  unfold eqSl at h; split at h
  · cases h; exact ⟨_, _, _, rfl, rfl, rfl⟩
  · cases h
theorem eq2V_inv {v u : Value} {r : Bool} (h : eq2V v u = some r) : ∃ a b a' b', v = .agg [.int .i64 a, .int .i64 b].toArray ∧ u = .agg [.int .i64 a', .int .i64 b'].toArray ∧ r = decide ([a, b] = [a', b']) := by
  unfold eq2V at h; split at h
  · cases h; exact ⟨_, _, _, _, rfl, rfl, rfl⟩
  · cases h
theorem eq4V_inv {v u : Value} {r : Bool} (h : eq4V v u = some r) : ∃ a b c d a' b' c' d', v = .agg [.int .i64 a, .int .i64 b, .int .i64 c, .int .i64 d].toArray ∧ u = .agg [.int .i64 a', .int .i64 b', .int .i64 c', .int .i64 d'].toArray ∧ r = decide ([a, b, c, d] = [a', b', c', d']) := by
  unfold eq4V at h; split at h
  · cases h; exact ⟨_, _, _, _, _, _, _, _, rfl, rfl, rfl⟩
  · cases h
instance {P : Program} {T : TypeId} [h : Bools P T] : EqOf P T eqBool where
  eq := fun hb => by obtain ⟨_, _, h1, h2, rfl⟩ := eqBool_inv hb; exact Ev.eql_bool h1 h2
  ne := fun hb => by obtain ⟨_, _, h1, h2, rfl⟩ := eqBool_inv hb; exact Ev.neq_bool h1 h2
instance {P : Program} {T : TypeId} [h : PtrTo P T] : EqOf P T eqPtr where
  eq := fun hb => by obtain ⟨_, h1, h2, rfl⟩ := eqPtr_inv hb; exact Ev.ptr_nil h1 h2
  ne := fun hb => by obtain ⟨_, h1, h2, rfl⟩ := eqPtr_inv hb; exact Ev.ptr_not_nil h1 h2
theorem Ev.slice_not_nil {P : Program} {C : World → Prop} {f : Frm} {T T' T'' : TypeId} {x y : Operand} {E : TypeId} {sz by_ : Nat} [h : SliceOf P T' E sz by_] {a : Option Addr} {l c : Nat} (hx : f.ev x = .slice a l c) (hy : f.ev y = .slice none 0 0) : Ev P C f (.binOp .neq T' x y T'') T (.bool (!a.isNone)) :=
  ev_neq_of (fun w => by rw [hx, hy]; rfl) (by rw [hx, hy]; rfl) (fun w => by rw [hx, hy]; exact run_equalIn_slc w _ a l c h.und)
instance {P : Program} {T E : TypeId} {sz by_ : Nat} [h : SliceOf P T E sz by_] : EqOf P T eqSl where
  eq := fun hb => by obtain ⟨_, _, _, h1, h2, rfl⟩ := eqSl_inv hb; exact Ev.slice_nil h1 h2
  ne := fun hb => by obtain ⟨_, _, _, h1, h2, rfl⟩ := eqSl_inv hb; exact Ev.slice_not_nil h1 h2
instance {P : Program} {T : TypeId} [h : Eqs P T 2] : EqOf P T eq2V where
  eq := fun hb => by obtain ⟨_, _, _, _, h1, h2, rfl⟩ := eq2V_inv hb; exact Ev.eq2 h1 h2
  ne := fun hb => by obtain ⟨_, _, _, _, h1, h2, rfl⟩ := eq2V_inv hb; exact Ev.ne2 h1 h2
instance {P : Program} {T : TypeId} [h : Eqs P T 4] : EqOf P T eq4V where
  eq := fun hb => by obtain ⟨_, _, _, _, _, _, _, _, h1, h2, rfl⟩ := eq4V_inv hb; exact Ev.eq4 h1 h2
  ne := fun hb => by obtain ⟨_, _, _, _, _, _, _, _, h1, h2, rfl⟩ := eq4V_inv hb; exact Ev.ne4 h1 h2

def cellV : Value → Option (List Value)
  | .bool b => some [.bool b]
  | .int k n => some [.int k n]
  | .pointer a => some [.pointer a]
  | .slice a l c => some [.slice a l c]
  | .map r => some [.map r]
  | .func g a b => some [.func g a b]
  | .agg ⟨l⟩ => some l
  | _ => none
theorem cell_of {v : Value} {cs : List Value} (h : cellV v = some cs) : v.cells = cs.toArray := by
  cases v <;> simp only [cellV, Option.some.injEq, reduceCtorEq] at h
  all_goals try (subst h; rfl)
def nfL : List Value → Option (List Value)
  | [] => some []
  | a :: r => match lookV a with
    | some a' => (match nfL r with | some r' => some (a' :: r') | none => none)
    | none => none
theorem nfL_eq : ∀ {l r : List Value}, nfL l = some r → l = r
  | [], r, h => by simpa [nfL] using h
  | a :: l, r, h => by
    simp only [nfL] at h
    split at h
    · rename_i a' ha
      split at h
      · rename_i r' hr; cases h; rw [nfL_eq hr, lookV_eq ha]
      · cases h
    · cases h
def fillN (places : List (Nat × Nat)) : List Value → List (Nat × Value) → Option (List Value)
  | zero, [] => some zero
  | zero, q :: r => match cellV q.2 with
    | some cs => (match (Nat.blt q.1 places.length && Nat.beq cs.length (places.getD q.1 (0, 0)).2 && Nat.ble ((places.getD q.1 (0, 0)).1 + cs.length) zero.length) with
      | true => (match nfL (zero.take (places.getD q.1 (0, 0)).1 ++ cs ++ zero.drop ((places.getD q.1 (0, 0)).1 + cs.length)) with
        | some z => fillN places z r
        | none => none)
      | false => none)
    | none => none
theorem fillN_eq {places : List (Nat × Nat)} : ∀ {parts : List (Nat × Value)} {zero cs : List Value}, fillN places zero parts = some cs → wfParts places zero.length parts = true ∧ fillL places zero parts = cs
  | [], zero, cs, h => by simp only [fillN, Option.some.injEq] at h; exact ⟨rfl, h⟩
  | q :: r, zero, cs, h => by
    simp only [fillN] at h
    split at h
    · rename_i c hc
      have hcl := congrArg Array.toList (cell_of hc)
      split at h
      · rename_i hw
        split at h
        · rename_i z hz
          have hz := nfL_eq hz
          simp only [Bool.and_eq_true] at hw
          obtain ⟨h1, h2⟩ := fillN_eq h
          have hlen : z.length = zero.length := by
            rw [← hz]
            have := Nat.le_of_ble_eq_true hw.2
            simp only [List.length_append, List.length_take, List.length_drop]; omega
          refine ⟨?_, ?_⟩
          · simp only [wfParts, hcl, hw.1.1, hw.1.2, hw.2, Bool.true_and, hlen ▸ h1]
          · simp only [fillL, hcl, hz, h2]
        · cases h
      · cases h
    · cases h
def noV : Value → Bool → Bool
  | .bool c, b => !(c == b)
  | .tuple _, _ => true
  | _, _ => false

section
variable {m : Bool} {P : Program} {n : Nat} {ops rest : List Oper} {Q : Post} {f : Frm} {C : World → Prop} {op : Op} {T T' T'' : TypeId} {p : String} {af : Array Edge} {d : Nat} {v : Value} {x y : Operand} {w0 : World} {F : Nat → Prop} {L L' : List Asrt}
theorem kc {k k' : IntKind} {a : Int} [hi : ToInt P T' T'' k] (hx : f.ev x = .int k' a) (hd : Nat.blt d n = true) (kk : LR m P n ops rest Q (upd f d (.int k (k.wrap a))) C) : LR m P n ops (⟨some d, .convert T' T'' x, T, p, af, none⟩ :: rest) Q f C := LR.ev (Ev.conv hx) hd kk
theorem Ev.buildN {parts : List (Nat × Operand)} {zero cs : List Value} {places : List (Nat × Nat)} [h : Build P T' zero places] (hw : fillN places zero (parts.map fun q => (q.1, f.ev q.2)) = some cs) : Ev P C f (.build T' parts.toArray) T (.agg cs.toArray) := by
  obtain ⟨h1, rfl⟩ := fillN_eq hw
  exact Ev.build h1
theorem Ev.load_ardq {b o q k : Nat} {xs : List Value} [h : Agg P T k] (hx : f.ev x = .pointer (some ⟨b, q, none⟩)) (hm : rdA (some ⟨b, o, none⟩) xs ∈ L) (ho : (Nat.ble o q && Nat.ble (q - o + k) xs.length) = true) : Ev P (St w0 F L) f (.load T x) T' (.agg ((xs.drop (q - o)).take k).toArray) := by
  simp only [Bool.and_eq_true] at ho
  have h1 := Nat.le_of_ble_eq_true ho.1
  have h2 := Nat.le_of_ble_eq_true ho.2
  refine Ev.load_agg_at hx (by simp; omega) fun w hw j v hj => ?_
  rw [List.getElem?_take] at hj
  split at hj
  · rw [List.getElem?_drop] at hj
    have := (hw.rd_of hm).cell hj
    rw [addr_add]
    rwa [show o + (q - o + j) = q + j by omega] at this
  · cases hj
theorem ks {b o q k : Nat} {xs : List Value} [h : Agg P T k] (hx : f.ev x = .pointer (some ⟨b, q, none⟩)) (hm : rdA (some ⟨b, o, none⟩) xs ∈ L) (ho : (Nat.ble o q && Nat.ble (q - o + k) xs.length) = true) (hd : Nat.blt d n = true) (kk : LR m P n ops rest Q (upd f d (.agg ((xs.drop (q - o)).take k).toArray)) (St w0 F L)) :
    LR m P n ops (⟨some d, .load T x, T', p, af, none⟩ :: rest) Q f (St w0 F L) := LR.ev (Ev.load_ardq hx hm ho) hd kk
theorem kl {q q' : IntKind} {a b : Int} (hx : f.ev x = .int q a) (hy : f.ev y = .int q' b) (h : 0 ≤ b) (hd : Nat.blt d n = true) (k : LR m P n ops rest Q (upd f d (.int q (q.wrap (a * 2 ^ (min b.toNat q.bits))))) C) : LR m P n ops (⟨some d, .binOp .shl T' x y T'', T, p, af, none⟩ :: rest) Q f C := LR.ev (Ev.shl hx hy h) hd k
theorem kg {dst : Option Tmp} {j dj : Nat} {b : Bool} (hj : (ops[j]?).bind (·.dst) = some dj) (hb : f dj = .bool b) (k : LR m P n ops (⟨dst, op, T, p, af, none⟩ :: rest) Q f C) : LR m P n ops (⟨dst, op, T, p, af, some (j, b)⟩ :: rest) Q f C := LR.guard_yes hj hb k
theorem kG {j dj : Nat} {b : Bool} (hj : (ops[j]?).bind (·.dst) = some dj) (hb : noV (f dj) b = true) (hd : Nat.blt d n = true) (k : LR m P n ops rest Q (upd f d undef) C) : LR m P n ops (⟨some d, op, T, p, af, some (j, b)⟩ :: rest) Q f C :=
  LR.skip_of hj (by cases hx : f dj <;> rw [hx] at hb <;> simp [noV] at hb ⊢; exact fun e => hb e) hd k
theorem kB {cs : List Value} (hv : cellV (f.ev x) = some cs) (hd : Nat.blt d n = true) (k : ∀ b, LR false P n ops rest Q (upd f d (.pointer (some ⟨b, 0, none⟩))) (St w0 F (.own b (.cells cs.toArray T (0, 0)) :: L))) :
    LR false P n ops (⟨some d, .box T x, T', p, af, none⟩ :: rest) Q f (St w0 F L) := LR.box (cell_of hv) hd k
theorem kA {cs : List Value} [h : ZeroOf P T cs] (hd : Nat.blt d n = true) (k : ∀ b, LR false P n ops rest Q (upd f d (.pointer (some ⟨b, 0, none⟩))) (St w0 F (.own b (.cells cs.toArray T (0, 0)) :: L))) :
    LR false P n ops (⟨some d, .alloc T, T', p, af, none⟩ :: rest) Q f (St w0 F L) := LR.alloc hd k
theorem kS {b o q : Nat} {cs vs : List Value} {E : TypeId} [h : Sz P T q] (hx : f.ev x = .pointer (some ⟨b, o, none⟩)) (hv : cellV (f.ev y) = some vs)
    (hs : Sel L (.own b (.cells cs.toArray E (0, 0))) (.own b (.cells (splice cs o vs).toArray E (0, 0))) L')
    (h1 : (vs.all Value.oneCell' && Nat.beq vs.length q && Nat.ble (o + vs.length) cs.length) = true)
    (k : LR false P n ops rest Q f (St w0 F L')) : LR false P n ops (⟨none, .store T x y, T', p, af, none⟩ :: rest) Q f (St w0 F L) := by
  simp only [Bool.and_eq_true] at h1
  exact LR.store hx (cell_of hv) hs h1.1.1 h1.1.2 h1.2 k
theorem kL {E : TypeId} {sz by_ len : Nat} [h : SliceOf P T E sz by_] {parts : List (Nat × Operand)} {cs : List Value} (hd : Nat.blt d n = true) (hlen : Nat.ble (len * sz) 100000 = true)
    (hp : parts.map (·.1) = List.range len) (hb : BS f sz parts cs)
    (k : ∀ b, LR false P n ops rest Q (upd f d (.slice (some ⟨b, 0, none⟩) len len)) (St w0 F (.own b (.cells cs.toArray E (0, 0)) :: L))) :
    LR false P n ops (⟨some d, .buildSlice T len parts.toArray, T', p, af, none⟩ :: rest) Q f (St w0 F L) := LR.buildSliceB hd hlen hp hb k
theorem kN {y : Code} (h : CW P n y Q f C) : LR m P n ops [] (thn P n y Q) f C := LR.nil_thn h
theorem kM (h : At Q .normal f C) : LR m P n ops [] Q f C := LR.nil h
theorem kQ {c : Operand} {s t : Code} {b : Bool} (hb : f.ev c = .bool b) (ht : b = true → CW P n s Q f C) (hf : b = false → CW P n t Q f C) : CW P n (.cond c s t) Q f C := CW.cond hb ht hf
theorem kR {op' : Op} {dst : Option Tmp} {j dj : Nat} {b c : Bool} (hj : (ops[j]?).bind (·.dst) = some dj) (hb : f dj = .bool c)
    (yes : c = true → LR m P n ops (⟨dst, op', T, p, af, some (j, b)⟩ :: rest) Q (upd f dj (.bool true)) C)
    (no : c = false → LR m P n ops (⟨dst, op', T, p, af, some (j, b)⟩ :: rest) Q (upd f dj (.bool false)) C) :
    LR m P n ops (⟨dst, op', T, p, af, some (j, b)⟩ :: rest) Q f C := LR.guard_split hj hb yes no
theorem kq {g : FuncId} {xs : List Operand} {ts : Array TypeId} [own : Own P g] (hd : Nat.blt d n = true)
    (h : ∀ w, C w → CallsTo P g (xs.map f.ev) w fun u w' => u = v ∧ C w') (k : LR m P n ops rest Q (upd f d v) C) :
    LR m P n ops (⟨some d, .call ⟨.value (.func g), xs.toArray, ts⟩, T, p, af, none⟩ :: rest) Q f C := LR.qcall hd h k
end

section
variable {P : Program} {n : Nat} {Q : Post} {f : Frm} {C : World → Prop}
theorem jc {id : Nat} {l : List Oper} [hm : Mixed P] [hc : Drawn C] (hB : Region.lexB .any l.toArray = true) (h : LR true P n l l Q f C) : CW P n (.region id l.toArray true) Q f C := CW.reg_draw hB h
theorem jp {id j : Nat} (hj : Nat.beq j id = false) (h : At Q (.exit j) f C) : At (blk id Q) (.exit j) f C := At.blk_other hj h
end
section
variable {α : Type} {M : List Nat} {f g : Frm} {I : α → Prop} {vs : α → List (Nat × Value)} {D : α → World → Prop} {μ : α → Nat} {i : α} {Q : Post} {C : World → Prop}
end

section
variable {P : Program} {n : Nat} {ops : List Oper} {S : World → Prop} {f : Frm} {K : Frm → Prop} {r : List Nat} {i j dj d : Nat} {op : Op} {T : TypeId} {p : String} {af : Array Edge} {v : Value} {b : Bool}
theorem yn (hi : ops[i]? = some ⟨some d, op, T, p, af, some (j, b)⟩) (hj : (ops[j]?).bind (·.dst) = some dj) (hb : noV (f dj) b = true) (hd : Nat.blt d n = true) (k : QL P n ops S K r (upd f d undef)) : QL P n ops S K (i :: r) f :=
  QL.skip_of hi hj (fun b' e => by rw [e] at hb; intro e2; subst e2; simp [noV] at hb) hd k
end
end Go.Hb

namespace Go.Proofs.Ytphcnaafhcfakaa
open Go.Hb
instance : Mixed Try.prog := ⟨by kernel_rfl⟩
instance : Own Try.prog 3 := ⟨Try.call3⟩
instance : Own Try.prog 4 := ⟨Try.call4⟩
instance : Own Try.prog 5 := ⟨Try.call5⟩
instance : Own Try.prog 6 := ⟨Try.call6⟩
instance : Own Try.prog 7 := ⟨Try.call7⟩
instance : Own Try.prog 8 := ⟨Try.call8⟩
instance : Own Try.prog 9 := ⟨Try.call9⟩
instance : Own Try.prog 10 := ⟨Try.call10⟩
instance : Own Try.prog 11 := ⟨Try.call11⟩
instance : Own Try.prog 12 := ⟨Try.call12⟩
instance : Own Try.prog 13 := ⟨Try.call13⟩
instance : Own Try.prog 14 := ⟨Try.call14⟩
instance : Own Try.prog 15 := ⟨Try.call15⟩
instance : Own Try.prog 16 := ⟨Try.call16⟩
instance : Own Try.prog 17 := ⟨Try.call17⟩
instance : Own Try.prog 18 := ⟨Try.call18⟩
instance : Own Try.prog 19 := ⟨Try.call19⟩
instance : Own Try.prog 20 := ⟨Try.call20⟩
instance : Own Try.prog 21 := ⟨Try.call21⟩
instance : Own Try.prog 22 := ⟨Try.call22⟩
instance : Own Try.prog 23 := ⟨Try.call23⟩
instance : Own Try.prog 24 := ⟨Try.call24⟩
instance : Own Try.prog 25 := ⟨Try.call25⟩
instance : Own Try.prog 26 := ⟨Try.call26⟩
instance : Own Try.prog 27 := ⟨Try.call27⟩
instance : Own Try.prog 28 := ⟨Try.call28⟩
instance : Own Try.prog 29 := ⟨Try.call29⟩
instance : Own Try.prog 30 := ⟨Try.call30⟩
instance : Own Try.prog 31 := ⟨Try.call31⟩
instance : Own Try.prog 32 := ⟨Try.call32⟩
instance : Own Try.prog 33 := ⟨Try.call33⟩
instance : Own Try.prog 34 := ⟨Try.call34⟩
instance : Own Try.prog 35 := ⟨Try.call35⟩
instance : Own Try.prog 36 := ⟨Try.call36⟩
instance : Own Try.prog 37 := ⟨Try.call37⟩
instance : Own Try.prog 38 := ⟨Try.call38⟩
instance : Own Try.prog 39 := ⟨Try.call39⟩
instance : Own Try.prog 40 := ⟨Try.call40⟩
instance : Own Try.prog 41 := ⟨Try.call41⟩
instance : Own Try.prog 42 := ⟨Try.call42⟩
instance : Own Try.prog 43 := ⟨Try.call43⟩
instance : Own Try.prog 44 := ⟨Try.call44⟩
instance : Own Try.prog 45 := ⟨Try.call45⟩
instance : Own Try.prog 46 := ⟨Try.call46⟩
instance : Own Try.prog 47 := ⟨Try.call47⟩
instance : Own Try.prog 48 := ⟨Try.call48⟩
instance : Own Try.prog 49 := ⟨Try.call49⟩
instance : Own Try.prog 50 := ⟨Try.call50⟩
instance : Own Try.prog 51 := ⟨Try.call51⟩
instance : Own Try.prog 52 := ⟨Try.call52⟩
instance : Own Try.prog 53 := ⟨Try.call53⟩
instance : Own Try.prog 54 := ⟨Try.call54⟩
instance : Own Try.prog 55 := ⟨Try.call55⟩
instance : Own Try.prog 56 := ⟨Try.call56⟩
instance : Own Try.prog 57 := ⟨Try.call57⟩
instance : Own Try.prog 58 := ⟨Try.call58⟩
instance : Own Try.prog 59 := ⟨Try.call59⟩
instance : Own Try.prog 60 := ⟨Try.call60⟩
instance : Own Try.prog 61 := ⟨Try.call61⟩
instance : Own Try.prog 62 := ⟨Try.call62⟩
instance : Own Try.prog 63 := ⟨Try.call63⟩
instance : Own Try.prog 64 := ⟨Try.call64⟩
instance : Own Try.prog 65 := ⟨Try.call65⟩
instance : Own Try.prog 66 := ⟨Try.call66⟩
instance : Own Try.prog 67 := ⟨Try.call67⟩
instance : Own Try.prog 68 := ⟨Try.call68⟩
instance : Own Try.prog 69 := ⟨Try.call69⟩
instance : Own Try.prog 70 := ⟨Try.call70⟩
instance : Own Try.prog 71 := ⟨Try.call71⟩
instance : Own Try.prog 72 := ⟨Try.call72⟩
instance : Own Try.prog 73 := ⟨Try.call73⟩
instance : Own Try.prog 74 := ⟨Try.call74⟩
instance : Own Try.prog 75 := ⟨Try.call75⟩
instance : Own Try.prog 76 := ⟨Try.call76⟩
instance : Own Try.prog 77 := ⟨Try.call77⟩
instance : Own Try.prog 78 := ⟨Try.call78⟩
instance : Own Try.prog 79 := ⟨Try.call79⟩
instance : Own Try.prog 80 := ⟨Try.call80⟩
instance : Own Try.prog 81 := ⟨Try.call81⟩
instance : Own Try.prog 82 := ⟨Try.call82⟩
instance : Own Try.prog 83 := ⟨Try.call83⟩
instance : Own Try.prog 84 := ⟨Try.call84⟩
instance : Own Try.prog 85 := ⟨Try.call85⟩
instance : Own Try.prog 86 := ⟨Try.call86⟩
instance : Own Try.prog 87 := ⟨Try.call87⟩
instance : Own Try.prog 88 := ⟨Try.call88⟩
instance : Own Try.prog 89 := ⟨Try.call89⟩
instance : Own Try.prog 90 := ⟨Try.call90⟩
instance : Own Try.prog 91 := ⟨Try.call91⟩
instance : Own Try.prog 92 := ⟨Try.call92⟩
instance : Own Try.prog 93 := ⟨Try.call93⟩
instance : Own Try.prog 94 := ⟨Try.call94⟩
instance : Own Try.prog 95 := ⟨Try.call95⟩
instance : Own Try.prog 96 := ⟨Try.call96⟩
instance : Own Try.prog 97 := ⟨Try.call97⟩
instance : Own Try.prog 98 := ⟨Try.call98⟩
instance : Own Try.prog 99 := ⟨Try.call99⟩
instance : Own Try.prog 100 := ⟨Try.call100⟩
instance : Own Try.prog 101 := ⟨Try.call101⟩
instance : Own Try.prog 102 := ⟨Try.call102⟩
instance : Own Try.prog 103 := ⟨Try.call103⟩
instance : Own Try.prog 104 := ⟨Try.call104⟩
instance : Own Try.prog 105 := ⟨Try.call105⟩
instance : Own Try.prog 106 := ⟨Try.call106⟩
instance : Own Try.prog 107 := ⟨Try.call107⟩
instance : Own Try.prog 108 := ⟨Try.call108⟩
instance : Own Try.prog 109 := ⟨Try.call109⟩
instance : Own Try.prog 110 := ⟨Try.call110⟩
instance : Own Try.prog 111 := ⟨Try.call111⟩
instance : Own Try.prog 112 := ⟨Try.call112⟩
instance : Own Try.prog 113 := ⟨Try.call113⟩
instance : Own Try.prog 114 := ⟨Try.call114⟩
instance : Own Try.prog 115 := ⟨Try.call115⟩
instance : Own Try.prog 116 := ⟨Try.call116⟩
instance : Own Try.prog 117 := ⟨Try.call117⟩
instance : Own Try.prog 118 := ⟨Try.call118⟩
instance : Own Try.prog 119 := ⟨Try.call119⟩
instance : Own Try.prog 120 := ⟨Try.call120⟩
instance : Own Try.prog 121 := ⟨Try.call121⟩
instance : Own Try.prog 122 := ⟨Try.call122⟩
-- 0 ()
-- 3 int
instance : One Try.prog 3 := ⟨Try.isAgg3, Try.sizeOf3⟩
instance : ZeroOf Try.prog 3 [.int .i64 0] := ⟨⟨_, Try.zeroValue3, rfl⟩⟩
instance : IntT Try.prog 3 .i64 := ⟨Try.underlying3⟩
-- 4 bool
instance : One Try.prog 4 := ⟨Try.isAgg4, Try.sizeOf4⟩
instance : ZeroOf Try.prog 4 [.bool false] := ⟨⟨_, Try.zeroValue4, rfl⟩⟩
instance : Bools Try.prog 4 := ⟨Try.underlying4⟩
-- 5 uint8
instance : One Try.prog 5 := ⟨Try.isAgg5, Try.sizeOf5⟩
instance : ZeroOf Try.prog 5 [.int .u8 0] := ⟨⟨_, Try.zeroValue5, rfl⟩⟩
instance : IntT Try.prog 5 .u8 := ⟨Try.underlying5⟩
-- 23 api.RingId
instance : Agg Try.prog 23 2 := ⟨Try.isAgg23, Try.sizeOf23⟩
instance : ZeroOf Try.prog 23 [.int .i64 0, .int .i64 0] := ⟨⟨_, Try.zeroValue23, rfl⟩⟩
instance : Fld Try.prog 23 0 0 := ⟨fun _ _ _ => by kernel_rfl⟩
instance : Fld Try.prog 23 1 1 := ⟨fun _ _ _ => by kernel_rfl⟩
instance : Build Try.prog 23 [.int .i64 0, .int .i64 0] [(0, 1), (1, 1)] := ⟨fun w parts cells h => by
  simp only [Instr.build, Sem.run_bind, Try.zeroValue23, run_underlying Try.underlying23, Result.andThen_ok]
  simp only [List.mapM_toArray, List.mapM_cons, List.mapM_nil, Sem.run_bind, Sem.run_map, Sem.run_pure, Result.andThen_ok, pure_bind, bind_assoc, map_eq_pure_bind, Try.sizeOf3, Value.cells]
  rw [h]
  rfl⟩
instance : Eqs Try.prog 23 2 where
  eq := fun x y xs ys w h1 h2 => by
    match xs, ys, h1, h2 with
    | [a, b], [a', b'], _, _ =>
      simp [go_sem, Sem.run_bind, run_eqGuard_agg, run_eql_struct, run_neq_struct, run_equalIn_agg, run_equalIn_int, Try.underlying3, Try.underlying23, Try.stoodInHeld23, Try.eqGuardType23]
      (repeat' split) <;> simp_all
  ne := fun x y xs ys w h1 h2 => by
    match xs, ys, h1, h2 with
    | [a, b], [a', b'], _, _ =>
      simp [go_sem, Sem.run_bind, run_eqGuard_agg, run_eql_struct, run_neq_struct, run_equalIn_agg, run_equalIn_int, Try.underlying3, Try.underlying23, Try.stoodInHeld23, Try.eqGuardType23]
      (repeat' split) <;> simp_all
-- 25 api.Key
instance : Agg Try.prog 25 4 := ⟨Try.isAgg25, Try.sizeOf25⟩
instance : ZeroOf Try.prog 25 [.int .i64 0, .int .i64 0, .int .i64 0, .int .i64 0] := ⟨⟨_, Try.zeroValue25, rfl⟩⟩
instance : Fld Try.prog 25 0 0 := ⟨fun _ _ _ => by kernel_rfl⟩
instance : Fld Try.prog 25 1 1 := ⟨fun _ _ _ => by kernel_rfl⟩
instance : Fld Try.prog 25 2 3 := ⟨fun _ _ _ => by kernel_rfl⟩
instance : Build Try.prog 25 [.int .i64 0, .int .i64 0, .int .i64 0, .int .i64 0] [(0, 1), (1, 2), (3, 1)] := ⟨fun w parts cells h => by
  simp only [Instr.build, Sem.run_bind, Try.zeroValue25, run_underlying Try.underlying25, Result.andThen_ok]
  simp only [List.mapM_toArray, List.mapM_cons, List.mapM_nil, Sem.run_bind, Sem.run_map, Sem.run_pure, Result.andThen_ok, pure_bind, bind_assoc, map_eq_pure_bind, Try.sizeOf23, Try.sizeOf3, Value.cells]
  rw [h]
  rfl⟩
instance : Eqs Try.prog 25 4 where
  eq := fun x y xs ys w h1 h2 => by
    match xs, ys, h1, h2 with
    | [a, b, c, d], [a', b', c', d'], _, _ =>
      simp [go_sem, Sem.run_bind, run_eqGuard_agg, run_eql_struct, run_neq_struct, run_equalIn_agg, run_equalIn_int, Try.underlying3, Try.underlying23, Try.underlying25, Try.stoodInHeld23, Try.stoodInHeld25, Try.eqGuardType25]
      (repeat' split) <;> simp_all
  ne := fun x y xs ys w h1 h2 => by
    match xs, ys, h1, h2 with
    | [a, b, c, d], [a', b', c', d'], _, _ =>
      simp [go_sem, Sem.run_bind, run_eqGuard_agg, run_eql_struct, run_neq_struct, run_equalIn_agg, run_equalIn_int, Try.underlying3, Try.underlying23, Try.underlying25, Try.stoodInHeld23, Try.stoodInHeld25, Try.eqGuardType25]
      (repeat' split) <;> simp_all
-- 26 []uint8
instance : One Try.prog 26 := ⟨Try.isAgg26, Try.sizeOf26⟩
instance : ZeroOf Try.prog 26 [.slice none 0 0] := ⟨⟨_, Try.zeroValue26, rfl⟩⟩
instance : SliceOf Try.prog 26 5 1 1 := ⟨Try.underlying26, by kernel_rfl, by decide, ⟨.int .u8 0, by kernel_rfl, rfl⟩⟩
-- 28 api.Message
instance : Agg Try.prog 28 13 := ⟨Try.isAgg28, Try.sizeOf28⟩
instance : ZeroOf Try.prog 28 [.int .i64 0, .int .i64 0, .int .i64 0, .int .i64 0, .int .i64 0, .int .i64 0, .int .i64 0, .bool false, .int .i64 0, .int .i64 0, .int .i64 0, .int .i64 0, .slice none 0 0] := ⟨⟨_, Try.zeroValue28, rfl⟩⟩
instance : Fld Try.prog 28 0 0 := ⟨fun _ _ _ => by kernel_rfl⟩
instance : Fld Try.prog 28 1 1 := ⟨fun _ _ _ => by kernel_rfl⟩
instance : Fld Try.prog 28 2 2 := ⟨fun _ _ _ => by kernel_rfl⟩
instance : Fld Try.prog 28 3 3 := ⟨fun _ _ _ => by kernel_rfl⟩
instance : Fld Try.prog 28 4 4 := ⟨fun _ _ _ => by kernel_rfl⟩
instance : Fld Try.prog 28 5 5 := ⟨fun _ _ _ => by kernel_rfl⟩
instance : Fld Try.prog 28 6 6 := ⟨fun _ _ _ => by kernel_rfl⟩
instance : Fld Try.prog 28 7 7 := ⟨fun _ _ _ => by kernel_rfl⟩
instance : Fld Try.prog 28 8 8 := ⟨fun _ _ _ => by kernel_rfl⟩
instance : Fld Try.prog 28 9 12 := ⟨fun _ _ _ => by kernel_rfl⟩
instance : Build Try.prog 28 [.int .i64 0, .int .i64 0, .int .i64 0, .int .i64 0, .int .i64 0, .int .i64 0, .int .i64 0, .bool false, .int .i64 0, .int .i64 0, .int .i64 0, .int .i64 0, .slice none 0 0] [(0, 1), (1, 1), (2, 1), (3, 1), (4, 1), (5, 1), (6, 1), (7, 1), (8, 4), (12, 1)] := ⟨fun w parts cells h => by
  simp only [Instr.build, Sem.run_bind, Try.zeroValue28, run_underlying Try.underlying28, Result.andThen_ok]
  simp only [List.mapM_toArray, List.mapM_cons, List.mapM_nil, Sem.run_bind, Sem.run_map, Sem.run_pure, Result.andThen_ok, pure_bind, bind_assoc, map_eq_pure_bind, Try.sizeOf25, Try.sizeOf26, Try.sizeOf3, Try.sizeOf4, Value.cells]
  rw [h]
  rfl⟩
-- 31 []api.Message
instance : One Try.prog 31 := ⟨Try.isAgg31, Try.sizeOf31⟩
instance : ZeroOf Try.prog 31 [.slice none 0 0] := ⟨⟨_, Try.zeroValue31, rfl⟩⟩
instance : SliceOf Try.prog 31 28 13 120 := ⟨Try.underlying31, by kernel_rfl, by decide, ⟨.agg #[.int .i64 0, .int .i64 0, .int .i64 0, .int .i64 0, .int .i64 0, .int .i64 0, .int .i64 0, .bool false, .int .i64 0, .int .i64 0, .int .i64 0, .int .i64 0, .slice none 0 0], by kernel_rfl, rfl⟩⟩
-- 32 api.Errno
instance : One Try.prog 32 := ⟨Try.isAgg32, Try.sizeOf32⟩
instance : ZeroOf Try.prog 32 [.int .i64 0] := ⟨⟨_, Try.zeroValue32, rfl⟩⟩
instance : IntT Try.prog 32 .i64 := ⟨Try.underlying32⟩
-- 33 ([]api.Message, api.Errno)
-- 40 *piece.Joiner
instance : One Try.prog 40 := ⟨Try.isAgg40, Try.sizeOf40⟩
instance : ZeroOf Try.prog 40 [.pointer none] := ⟨⟨_, Try.zeroValue40, rfl⟩⟩
instance : PtrTo Try.prog 40 := ⟨⟨_, Try.underlying40⟩⟩
-- 42 *hauberkref12.Joiner
instance : One Try.prog 42 := ⟨Try.isAgg42, Try.sizeOf42⟩
instance : ZeroOf Try.prog 42 [.pointer none] := ⟨⟨_, Try.zeroValue42, rfl⟩⟩
instance : PtrTo Try.prog 42 := ⟨⟨_, Try.underlying42⟩⟩
-- 44 ([]uint8, bool, api.Errno)
-- 48 []hauberklaw12.Sent
instance : One Try.prog 48 := ⟨Try.isAgg48, Try.sizeOf48⟩
instance : ZeroOf Try.prog 48 [.slice none 0 0] := ⟨⟨_, Try.zeroValue48, rfl⟩⟩
instance : SliceOf Try.prog 48 55 5 56 := ⟨Try.underlying48, by kernel_rfl, by decide, ⟨.agg #[.int .i64 0, .int .i64 0, .int .i64 0, .bool false, .slice none 0 0], by kernel_rfl, rfl⟩⟩
-- 49 []int
instance : One Try.prog 49 := ⟨Try.isAgg49, Try.sizeOf49⟩
instance : ZeroOf Try.prog 49 [.slice none 0 0] := ⟨⟨_, Try.zeroValue49, rfl⟩⟩
instance : SliceOf Try.prog 49 3 1 8 := ⟨Try.underlying49, by kernel_rfl, by decide, ⟨.int .i64 0, by kernel_rfl, rfl⟩⟩
-- 50 [16][]api.Message
instance : Agg Try.prog 50 16 := ⟨Try.isAgg50, Try.sizeOf50⟩
instance : ZeroOf Try.prog 50 [.slice none 0 0, .slice none 0 0, .slice none 0 0, .slice none 0 0, .slice none 0 0, .slice none 0 0, .slice none 0 0, .slice none 0 0, .slice none 0 0, .slice none 0 0, .slice none 0 0, .slice none 0 0, .slice none 0 0, .slice none 0 0, .slice none 0 0, .slice none 0 0] := ⟨⟨_, Try.zeroValue50, rfl⟩⟩
instance : ArrOf Try.prog 50 16 31 1 := ⟨Try.underlying50, Try.sizeOf31⟩
-- 51 [][]uint8
instance : One Try.prog 51 := ⟨Try.isAgg51, Try.sizeOf51⟩
instance : ZeroOf Try.prog 51 [.slice none 0 0] := ⟨⟨_, Try.zeroValue51, rfl⟩⟩
instance : SliceOf Try.prog 51 26 1 24 := ⟨Try.underlying51, by kernel_rfl, by decide, ⟨.slice none 0 0, by kernel_rfl, rfl⟩⟩
-- 52 [16][][]uint8
instance : Agg Try.prog 52 16 := ⟨Try.isAgg52, Try.sizeOf52⟩
instance : ZeroOf Try.prog 52 [.slice none 0 0, .slice none 0 0, .slice none 0 0, .slice none 0 0, .slice none 0 0, .slice none 0 0, .slice none 0 0, .slice none 0 0, .slice none 0 0, .slice none 0 0, .slice none 0 0, .slice none 0 0, .slice none 0 0, .slice none 0 0, .slice none 0 0, .slice none 0 0] := ⟨⟨_, Try.zeroValue52, rfl⟩⟩
instance : ArrOf Try.prog 52 16 51 1 := ⟨Try.underlying52, Try.sizeOf51⟩
-- 55 hauberklaw12.Sent
instance : Agg Try.prog 55 5 := ⟨Try.isAgg55, Try.sizeOf55⟩
instance : ZeroOf Try.prog 55 [.int .i64 0, .int .i64 0, .int .i64 0, .bool false, .slice none 0 0] := ⟨⟨_, Try.zeroValue55, rfl⟩⟩
instance : Fld Try.prog 55 0 0 := ⟨fun _ _ _ => by kernel_rfl⟩
instance : Fld Try.prog 55 1 1 := ⟨fun _ _ _ => by kernel_rfl⟩
instance : Fld Try.prog 55 2 2 := ⟨fun _ _ _ => by kernel_rfl⟩
instance : Fld Try.prog 55 3 3 := ⟨fun _ _ _ => by kernel_rfl⟩
instance : Fld Try.prog 55 4 4 := ⟨fun _ _ _ => by kernel_rfl⟩
instance : Build Try.prog 55 [.int .i64 0, .int .i64 0, .int .i64 0, .bool false, .slice none 0 0] [(0, 1), (1, 1), (2, 1), (3, 1), (4, 1)] := ⟨fun w parts cells h => by
  simp only [Instr.build, Sem.run_bind, Try.zeroValue55, run_underlying Try.underlying55, Result.andThen_ok]
  simp only [List.mapM_toArray, List.mapM_cons, List.mapM_nil, Sem.run_bind, Sem.run_map, Sem.run_pure, Result.andThen_ok, pure_bind, bind_assoc, map_eq_pure_bind, Try.sizeOf26, Try.sizeOf3, Try.sizeOf4, Value.cells]
  rw [h]
  rfl⟩
-- 60 map[piece.sender]piece.way
instance : One Try.prog 60 := ⟨Try.isAgg60, Try.sizeOf60⟩
instance : ZeroOf Try.prog 60 [.map none] := ⟨⟨_, Try.zeroValue60, rfl⟩⟩
-- 62 piece.Joiner
instance : Agg Try.prog 62 1 := ⟨Try.isAgg62, Try.sizeOf62⟩
instance : ZeroOf Try.prog 62 [.map none] := ⟨⟨_, Try.zeroValue62, rfl⟩⟩
instance : Fld Try.prog 62 0 0 := ⟨fun _ _ _ => by kernel_rfl⟩
instance : Build Try.prog 62 [.map none] [(0, 1)] := ⟨fun w parts cells h => by
  simp only [Instr.build, Sem.run_bind, Try.zeroValue62, run_underlying Try.underlying62, Result.andThen_ok]
  simp only [List.mapM_toArray, List.mapM_cons, List.mapM_nil, Sem.run_bind, Sem.run_map, Sem.run_pure, Result.andThen_ok, pure_bind, bind_assoc, map_eq_pure_bind, Try.sizeOf60, Value.cells]
  rw [h]
  rfl⟩
-- 64 *gate.Gate
instance : One Try.prog 64 := ⟨Try.isAgg64, Try.sizeOf64⟩
instance : ZeroOf Try.prog 64 [.pointer none] := ⟨⟨_, Try.zeroValue64, rfl⟩⟩
instance : PtrTo Try.prog 64 := ⟨⟨_, Try.underlying64⟩⟩
-- 65 (*gate.Gate, api.Errno)
-- 67 (api.Message, bool)
-- 70 api.Place
instance : Agg Try.prog 70 4 := ⟨Try.isAgg70, Try.sizeOf70⟩
instance : ZeroOf Try.prog 70 [.int .i64 0, .int .i64 0, .int .i64 0, .int .i64 0] := ⟨⟨_, Try.zeroValue70, rfl⟩⟩
instance : Fld Try.prog 70 0 0 := ⟨fun _ _ _ => by kernel_rfl⟩
instance : Fld Try.prog 70 1 1 := ⟨fun _ _ _ => by kernel_rfl⟩
instance : Fld Try.prog 70 2 3 := ⟨fun _ _ _ => by kernel_rfl⟩
instance : Build Try.prog 70 [.int .i64 0, .int .i64 0, .int .i64 0, .int .i64 0] [(0, 1), (1, 2), (3, 1)] := ⟨fun w parts cells h => by
  simp only [Instr.build, Sem.run_bind, Try.zeroValue70, run_underlying Try.underlying70, Result.andThen_ok]
  simp only [List.mapM_toArray, List.mapM_cons, List.mapM_nil, Sem.run_bind, Sem.run_map, Sem.run_pure, Result.andThen_ok, pure_bind, bind_assoc, map_eq_pure_bind, Try.sizeOf23, Try.sizeOf3, Value.cells]
  rw [h]
  rfl⟩
instance : Eqs Try.prog 70 4 where
  eq := fun x y xs ys w h1 h2 => by
    match xs, ys, h1, h2 with
    | [a, b, c, d], [a', b', c', d'], _, _ =>
      simp [go_sem, Sem.run_bind, run_eqGuard_agg, run_eql_struct, run_neq_struct, run_equalIn_agg, run_equalIn_int, Try.underlying3, Try.underlying23, Try.underlying70, Try.stoodInHeld23, Try.stoodInHeld70, Try.eqGuardType70]
      (repeat' split) <;> simp_all
  ne := fun x y xs ys w h1 h2 => by
    match xs, ys, h1, h2 with
    | [a, b, c, d], [a', b', c', d'], _, _ =>
      simp [go_sem, Sem.run_bind, run_eqGuard_agg, run_eql_struct, run_neq_struct, run_equalIn_agg, run_equalIn_int, Try.underlying3, Try.underlying23, Try.underlying70, Try.stoodInHeld23, Try.stoodInHeld70, Try.eqGuardType70]
      (repeat' split) <;> simp_all
-- 72 api.Item
instance : Agg Try.prog 72 21 := ⟨Try.isAgg72, Try.sizeOf72⟩
instance : ZeroOf Try.prog 72 [.int .i64 0, .int .i64 0, .int .i64 0, .int .i64 0, .int .i64 0, .int .i64 0, .int .i64 0, .int .i64 0, .int .i64 0, .int .i64 0, .int .i64 0, .bool false, .int .i64 0, .int .i64 0, .int .i64 0, .int .i64 0, .slice none 0 0, .int .i64 0, .int .i64 0, .int .i64 0, .int .i64 0] := ⟨⟨_, Try.zeroValue72, rfl⟩⟩
instance : Fld Try.prog 72 0 0 := ⟨fun _ _ _ => by kernel_rfl⟩
instance : Fld Try.prog 72 1 4 := ⟨fun _ _ _ => by kernel_rfl⟩
instance : Fld Try.prog 72 2 17 := ⟨fun _ _ _ => by kernel_rfl⟩
instance : Build Try.prog 72 [.int .i64 0, .int .i64 0, .int .i64 0, .int .i64 0, .int .i64 0, .int .i64 0, .int .i64 0, .int .i64 0, .int .i64 0, .int .i64 0, .int .i64 0, .bool false, .int .i64 0, .int .i64 0, .int .i64 0, .int .i64 0, .slice none 0 0, .int .i64 0, .int .i64 0, .int .i64 0, .int .i64 0] [(0, 4), (4, 13), (17, 4)] := ⟨fun w parts cells h => by
  simp only [Instr.build, Sem.run_bind, Try.zeroValue72, run_underlying Try.underlying72, Result.andThen_ok]
  simp only [List.mapM_toArray, List.mapM_cons, List.mapM_nil, Sem.run_bind, Sem.run_map, Sem.run_pure, Result.andThen_ok, pure_bind, bind_assoc, map_eq_pure_bind, Try.sizeOf25, Try.sizeOf28, Try.sizeOf70, Value.cells]
  rw [h]
  rfl⟩
-- 76 (api.Key, bool)
-- 80 []hauberklaw26.Do
instance : One Try.prog 80 := ⟨Try.isAgg80, Try.sizeOf80⟩
instance : ZeroOf Try.prog 80 [.slice none 0 0] := ⟨⟨_, Try.zeroValue80, rfl⟩⟩
instance : SliceOf Try.prog 80 87 23 216 := ⟨Try.underlying80, by kernel_rfl, by decide, ⟨.agg #[.int .i64 0, .int .i64 0, .int .i64 0, .int .i64 0, .int .i64 0, .int .i64 0, .int .i64 0, .int .i64 0, .int .i64 0, .int .i64 0, .int .i64 0, .int .i64 0, .bool false, .int .i64 0, .int .i64 0, .int .i64 0, .int .i64 0, .slice none 0 0, .int .i64 0, .int .i64 0, .int .i64 0, .int .i64 0, .slice none 0 0], by kernel_rfl, rfl⟩⟩
-- 81 *hauberkref26.Gate
instance : One Try.prog 81 := ⟨Try.isAgg81, Try.sizeOf81⟩
instance : ZeroOf Try.prog 81 [.pointer none] := ⟨⟨_, Try.zeroValue81, rfl⟩⟩
instance : PtrTo Try.prog 81 := ⟨⟨_, Try.underlying81⟩⟩
-- 82 (*hauberkref26.Gate, api.Errno)
-- 85 []api.Place
instance : One Try.prog 85 := ⟨Try.isAgg85, Try.sizeOf85⟩
instance : ZeroOf Try.prog 85 [.slice none 0 0] := ⟨⟨_, Try.zeroValue85, rfl⟩⟩
instance : SliceOf Try.prog 85 70 4 32 := ⟨Try.underlying85, by kernel_rfl, by decide, ⟨.agg #[.int .i64 0, .int .i64 0, .int .i64 0, .int .i64 0], by kernel_rfl, rfl⟩⟩
-- 87 hauberklaw26.Do
instance : Agg Try.prog 87 23 := ⟨Try.isAgg87, Try.sizeOf87⟩
instance : ZeroOf Try.prog 87 [.int .i64 0, .int .i64 0, .int .i64 0, .int .i64 0, .int .i64 0, .int .i64 0, .int .i64 0, .int .i64 0, .int .i64 0, .int .i64 0, .int .i64 0, .int .i64 0, .bool false, .int .i64 0, .int .i64 0, .int .i64 0, .int .i64 0, .slice none 0 0, .int .i64 0, .int .i64 0, .int .i64 0, .int .i64 0, .slice none 0 0] := ⟨⟨_, Try.zeroValue87, rfl⟩⟩
instance : Fld Try.prog 87 0 0 := ⟨fun _ _ _ => by kernel_rfl⟩
instance : Fld Try.prog 87 1 1 := ⟨fun _ _ _ => by kernel_rfl⟩
instance : Fld Try.prog 87 2 22 := ⟨fun _ _ _ => by kernel_rfl⟩
instance : Build Try.prog 87 [.int .i64 0, .int .i64 0, .int .i64 0, .int .i64 0, .int .i64 0, .int .i64 0, .int .i64 0, .int .i64 0, .int .i64 0, .int .i64 0, .int .i64 0, .int .i64 0, .bool false, .int .i64 0, .int .i64 0, .int .i64 0, .int .i64 0, .slice none 0 0, .int .i64 0, .int .i64 0, .int .i64 0, .int .i64 0, .slice none 0 0] [(0, 1), (1, 21), (22, 1)] := ⟨fun w parts cells h => by
  simp only [Instr.build, Sem.run_bind, Try.zeroValue87, run_underlying Try.underlying87, Result.andThen_ok]
  simp only [List.mapM_toArray, List.mapM_cons, List.mapM_nil, Sem.run_bind, Sem.run_map, Sem.run_pure, Result.andThen_ok, pure_bind, bind_assoc, map_eq_pure_bind, Try.sizeOf3, Try.sizeOf72, Try.sizeOf85, Value.cells]
  rw [h]
  rfl⟩
-- 89 (api.Message, api.Errno)
-- 95 gate.Gate
instance : Agg Try.prog 95 13 := ⟨Try.isAgg95, Try.sizeOf95⟩
instance : ZeroOf Try.prog 95 [.int .i64 0, .int .i64 0, .int .i64 0, .int .i64 0, .int .i64 0, .int .i64 0, .int .i64 0, .int .i64 0, .int .i64 0, .int .i64 0, .int .i64 0, .int .i64 0, .int .i64 0] := ⟨⟨_, Try.zeroValue95, rfl⟩⟩
instance : Fld Try.prog 95 0 0 := ⟨fun _ _ _ => by kernel_rfl⟩
instance : Fld Try.prog 95 1 1 := ⟨fun _ _ _ => by kernel_rfl⟩
instance : Fld Try.prog 95 2 5 := ⟨fun _ _ _ => by kernel_rfl⟩
instance : Fld Try.prog 95 3 9 := ⟨fun _ _ _ => by kernel_rfl⟩
instance : Build Try.prog 95 [.int .i64 0, .int .i64 0, .int .i64 0, .int .i64 0, .int .i64 0, .int .i64 0, .int .i64 0, .int .i64 0, .int .i64 0, .int .i64 0, .int .i64 0, .int .i64 0, .int .i64 0] [(0, 1), (1, 4), (5, 4), (9, 4)] := ⟨fun w parts cells h => by
  simp only [Instr.build, Sem.run_bind, Try.zeroValue95, run_underlying Try.underlying95, Result.andThen_ok]
  simp only [List.mapM_toArray, List.mapM_cons, List.mapM_nil, Sem.run_bind, Sem.run_map, Sem.run_pure, Result.andThen_ok, pure_bind, bind_assoc, map_eq_pure_bind, Try.sizeOf25, Try.sizeOf3, Value.cells]
  rw [h]
  rfl⟩
-- 96 [][]api.Message
instance : One Try.prog 96 := ⟨Try.isAgg96, Try.sizeOf96⟩
instance : ZeroOf Try.prog 96 [.slice none 0 0] := ⟨⟨_, Try.zeroValue96, rfl⟩⟩
instance : SliceOf Try.prog 96 31 1 24 := ⟨Try.underlying96, by kernel_rfl, by decide, ⟨.slice none 0 0, by kernel_rfl, rfl⟩⟩
-- 98 hauberkref12.Joiner
instance : Agg Try.prog 98 1 := ⟨Try.isAgg98, Try.sizeOf98⟩
instance : ZeroOf Try.prog 98 [.slice none 0 0] := ⟨⟨_, Try.zeroValue98, rfl⟩⟩
instance : Fld Try.prog 98 0 0 := ⟨fun _ _ _ => by kernel_rfl⟩
instance : Build Try.prog 98 [.slice none 0 0] [(0, 1)] := ⟨fun w parts cells h => by
  simp only [Instr.build, Sem.run_bind, Try.zeroValue98, run_underlying Try.underlying98, Result.andThen_ok]
  simp only [List.mapM_toArray, List.mapM_cons, List.mapM_nil, Sem.run_bind, Sem.run_map, Sem.run_pure, Result.andThen_ok, pure_bind, bind_assoc, map_eq_pure_bind, Try.sizeOf96, Value.cells]
  rw [h]
  rfl⟩
-- 100 piece.sender
instance : Agg Try.prog 100 2 := ⟨Try.isAgg100, Try.sizeOf100⟩
instance : ZeroOf Try.prog 100 [.int .i64 0, .int .i64 0] := ⟨⟨_, Try.zeroValue100, rfl⟩⟩
instance : Fld Try.prog 100 0 0 := ⟨fun _ _ _ => by kernel_rfl⟩
instance : Fld Try.prog 100 1 1 := ⟨fun _ _ _ => by kernel_rfl⟩
instance : Build Try.prog 100 [.int .i64 0, .int .i64 0] [(0, 1), (1, 1)] := ⟨fun w parts cells h => by
  simp only [Instr.build, Sem.run_bind, Try.zeroValue100, run_underlying Try.underlying100, Result.andThen_ok]
  simp only [List.mapM_toArray, List.mapM_cons, List.mapM_nil, Sem.run_bind, Sem.run_map, Sem.run_pure, Result.andThen_ok, pure_bind, bind_assoc, map_eq_pure_bind, Try.sizeOf3, Value.cells]
  rw [h]
  rfl⟩
instance : Eqs Try.prog 100 2 where
  eq := fun x y xs ys w h1 h2 => by
    match xs, ys, h1, h2 with
    | [a, b], [a', b'], _, _ =>
      simp [go_sem, Sem.run_bind, run_eqGuard_agg, run_eql_struct, run_neq_struct, run_equalIn_agg, run_equalIn_int, Try.underlying3, Try.underlying100, Try.stoodInHeld100, Try.eqGuardType100]
      (repeat' split) <;> simp_all
  ne := fun x y xs ys w h1 h2 => by
    match xs, ys, h1, h2 with
    | [a, b], [a', b'], _, _ =>
      simp [go_sem, Sem.run_bind, run_eqGuard_agg, run_eql_struct, run_neq_struct, run_equalIn_agg, run_equalIn_int, Try.underlying3, Try.underlying100, Try.stoodInHeld100, Try.eqGuardType100]
      (repeat' split) <;> simp_all
-- 102 piece.way
instance : Agg Try.prog 102 14 := ⟨Try.isAgg102, Try.sizeOf102⟩
instance : ZeroOf Try.prog 102 [.int .i64 0, .int .i64 0, .int .i64 0, .int .i64 0, .int .i64 0, .int .i64 0, .int .i64 0, .bool false, .int .i64 0, .int .i64 0, .int .i64 0, .int .i64 0, .slice none 0 0, .slice none 0 0] := ⟨⟨_, Try.zeroValue102, rfl⟩⟩
instance : Fld Try.prog 102 0 0 := ⟨fun _ _ _ => by kernel_rfl⟩
instance : Fld Try.prog 102 1 13 := ⟨fun _ _ _ => by kernel_rfl⟩
instance : Build Try.prog 102 [.int .i64 0, .int .i64 0, .int .i64 0, .int .i64 0, .int .i64 0, .int .i64 0, .int .i64 0, .bool false, .int .i64 0, .int .i64 0, .int .i64 0, .int .i64 0, .slice none 0 0, .slice none 0 0] [(0, 13), (13, 1)] := ⟨fun w parts cells h => by
  simp only [Instr.build, Sem.run_bind, Try.zeroValue102, run_underlying Try.underlying102, Result.andThen_ok]
  simp only [List.mapM_toArray, List.mapM_cons, List.mapM_nil, Sem.run_bind, Sem.run_map, Sem.run_pure, Result.andThen_ok, pure_bind, bind_assoc, map_eq_pure_bind, Try.sizeOf26, Try.sizeOf28, Value.cells]
  rw [h]
  rfl⟩
-- 103 (piece.way, bool)
-- 111 hauberkref26.Gate
instance : Agg Try.prog 111 13 := ⟨Try.isAgg111, Try.sizeOf111⟩
instance : ZeroOf Try.prog 111 [.int .i64 0, .int .i64 0, .int .i64 0, .int .i64 0, .int .i64 0, .int .i64 0, .int .i64 0, .int .i64 0, .int .i64 0, .int .i64 0, .int .i64 0, .int .i64 0, .int .i64 0] := ⟨⟨_, Try.zeroValue111, rfl⟩⟩
instance : Fld Try.prog 111 0 0 := ⟨fun _ _ _ => by kernel_rfl⟩
instance : Fld Try.prog 111 1 1 := ⟨fun _ _ _ => by kernel_rfl⟩
instance : Fld Try.prog 111 2 5 := ⟨fun _ _ _ => by kernel_rfl⟩
instance : Fld Try.prog 111 3 9 := ⟨fun _ _ _ => by kernel_rfl⟩
instance : Build Try.prog 111 [.int .i64 0, .int .i64 0, .int .i64 0, .int .i64 0, .int .i64 0, .int .i64 0, .int .i64 0, .int .i64 0, .int .i64 0, .int .i64 0, .int .i64 0, .int .i64 0, .int .i64 0] [(0, 1), (1, 4), (5, 4), (9, 4)] := ⟨fun w parts cells h => by
  simp only [Instr.build, Sem.run_bind, Try.zeroValue111, run_underlying Try.underlying111, Result.andThen_ok]
  simp only [List.mapM_toArray, List.mapM_cons, List.mapM_nil, Sem.run_bind, Sem.run_map, Sem.run_pure, Result.andThen_ok, pure_bind, bind_assoc, map_eq_pure_bind, Try.sizeOf25, Try.sizeOf3, Value.cells]
  rw [h]
  rfl⟩
-- 114 ([]uint8, api.Errno)
-- 116 parcel.rule
instance : One Try.prog 116 := ⟨Try.isAgg116, Try.sizeOf116⟩
instance : ZeroOf Try.prog 116 [.nilFunc] := ⟨⟨_, Try.zeroValue116, rfl⟩⟩
-- 117 (parcel.rule, bool)
-- 118 map[int]parcel.rule
instance : One Try.prog 118 := ⟨Try.isAgg118, Try.sizeOf118⟩
instance : ZeroOf Try.prog 118 [.map none] := ⟨⟨_, Try.zeroValue118, rfl⟩⟩
-- 126 func(api.Place) bool
instance : One Try.prog 126 := ⟨Try.isAgg126, Try.sizeOf126⟩
instance : ZeroOf Try.prog 126 [.nilFunc] := ⟨⟨_, Try.zeroValue126, rfl⟩⟩
-- 127 *word.Writer
instance : One Try.prog 127 := ⟨Try.isAgg127, Try.sizeOf127⟩
instance : ZeroOf Try.prog 127 [.pointer none] := ⟨⟨_, Try.zeroValue127, rfl⟩⟩
instance : PtrTo Try.prog 127 := ⟨⟨_, Try.underlying127⟩⟩
-- 131 ([]api.Place, api.Errno)
-- 134 *hauberkref01.Writer
instance : One Try.prog 134 := ⟨Try.isAgg134, Try.sizeOf134⟩
instance : ZeroOf Try.prog 134 [.pointer none] := ⟨⟨_, Try.zeroValue134, rfl⟩⟩
instance : PtrTo Try.prog 134 := ⟨⟨_, Try.underlying134⟩⟩
-- 139 word.Writer
instance : Agg Try.prog 139 2 := ⟨Try.isAgg139, Try.sizeOf139⟩
instance : ZeroOf Try.prog 139 [.slice none 0 0, .bool false] := ⟨⟨_, Try.zeroValue139, rfl⟩⟩
instance : Fld Try.prog 139 0 0 := ⟨fun _ _ _ => by kernel_rfl⟩
instance : Fld Try.prog 139 1 1 := ⟨fun _ _ _ => by kernel_rfl⟩
instance : Build Try.prog 139 [.slice none 0 0, .bool false] [(0, 1), (1, 1)] := ⟨fun w parts cells h => by
  simp only [Instr.build, Sem.run_bind, Try.zeroValue139, run_underlying Try.underlying139, Result.andThen_ok]
  simp only [List.mapM_toArray, List.mapM_cons, List.mapM_nil, Sem.run_bind, Sem.run_map, Sem.run_pure, Result.andThen_ok, pure_bind, bind_assoc, map_eq_pure_bind, Try.sizeOf26, Try.sizeOf4, Value.cells]
  rw [h]
  rfl⟩
-- 140 *hauberkref01.Reader
instance : One Try.prog 140 := ⟨Try.isAgg140, Try.sizeOf140⟩
instance : ZeroOf Try.prog 140 [.pointer none] := ⟨⟨_, Try.zeroValue140, rfl⟩⟩
instance : PtrTo Try.prog 140 := ⟨⟨_, Try.underlying140⟩⟩
-- 142 (int, api.Errno)
-- 144 [4]int
instance : Agg Try.prog 144 4 := ⟨Try.isAgg144, Try.sizeOf144⟩
instance : ZeroOf Try.prog 144 [.int .i64 0, .int .i64 0, .int .i64 0, .int .i64 0] := ⟨⟨_, Try.zeroValue144, rfl⟩⟩
instance : ArrOf Try.prog 144 4 3 1 := ⟨Try.underlying144, Try.sizeOf3⟩
-- 145 [12]int
instance : Agg Try.prog 145 12 := ⟨Try.isAgg145, Try.sizeOf145⟩
instance : ZeroOf Try.prog 145 [.int .i64 0, .int .i64 0, .int .i64 0, .int .i64 0, .int .i64 0, .int .i64 0, .int .i64 0, .int .i64 0, .int .i64 0, .int .i64 0, .int .i64 0, .int .i64 0] := ⟨⟨_, Try.zeroValue145, rfl⟩⟩
instance : ArrOf Try.prog 145 12 3 1 := ⟨Try.underlying145, Try.sizeOf3⟩
-- 148 hauberkref01.Writer
instance : Agg Try.prog 148 1 := ⟨Try.isAgg148, Try.sizeOf148⟩
instance : ZeroOf Try.prog 148 [.slice none 0 0] := ⟨⟨_, Try.zeroValue148, rfl⟩⟩
instance : Fld Try.prog 148 0 0 := ⟨fun _ _ _ => by kernel_rfl⟩
instance : Build Try.prog 148 [.slice none 0 0] [(0, 1)] := ⟨fun w parts cells h => by
  simp only [Instr.build, Sem.run_bind, Try.zeroValue148, run_underlying Try.underlying148, Result.andThen_ok]
  simp only [List.mapM_toArray, List.mapM_cons, List.mapM_nil, Sem.run_bind, Sem.run_map, Sem.run_pure, Result.andThen_ok, pure_bind, bind_assoc, map_eq_pure_bind, Try.sizeOf26, Value.cells]
  rw [h]
  rfl⟩
-- 149 uint64
instance : One Try.prog 149 := ⟨Try.isAgg149, Try.sizeOf149⟩
instance : ZeroOf Try.prog 149 [.int .u64 0] := ⟨⟨_, Try.zeroValue149, rfl⟩⟩
instance : IntT Try.prog 149 .u64 := ⟨Try.underlying149⟩
-- 150 uint
instance : One Try.prog 150 := ⟨Try.isAgg150, Try.sizeOf150⟩
instance : ZeroOf Try.prog 150 [.int .u64 0] := ⟨⟨_, Try.zeroValue150, rfl⟩⟩
instance : IntT Try.prog 150 .u64 := ⟨Try.underlying150⟩
-- 151 *word.Reader
instance : One Try.prog 151 := ⟨Try.isAgg151, Try.sizeOf151⟩
instance : ZeroOf Try.prog 151 [.pointer none] := ⟨⟨_, Try.zeroValue151, rfl⟩⟩
instance : PtrTo Try.prog 151 := ⟨⟨_, Try.underlying151⟩⟩
-- 153 *api.Place
instance : One Try.prog 153 := ⟨Try.isAgg153, Try.sizeOf153⟩
instance : ZeroOf Try.prog 153 [.pointer none] := ⟨⟨_, Try.zeroValue153, rfl⟩⟩
instance : PtrTo Try.prog 153 := ⟨⟨_, Try.underlying153⟩⟩
-- 155 *int
instance : One Try.prog 155 := ⟨Try.isAgg155, Try.sizeOf155⟩
instance : ZeroOf Try.prog 155 [.pointer none] := ⟨⟨_, Try.zeroValue155, rfl⟩⟩
instance : PtrTo Try.prog 155 := ⟨⟨_, Try.underlying155⟩⟩
-- 156 hauberkref01.Reader
instance : Agg Try.prog 156 1 := ⟨Try.isAgg156, Try.sizeOf156⟩
instance : ZeroOf Try.prog 156 [.slice none 0 0] := ⟨⟨_, Try.zeroValue156, rfl⟩⟩
instance : Fld Try.prog 156 0 0 := ⟨fun _ _ _ => by kernel_rfl⟩
instance : Build Try.prog 156 [.slice none 0 0] [(0, 1)] := ⟨fun w parts cells h => by
  simp only [Instr.build, Sem.run_bind, Try.zeroValue156, run_underlying Try.underlying156, Result.andThen_ok]
  simp only [List.mapM_toArray, List.mapM_cons, List.mapM_nil, Sem.run_bind, Sem.run_map, Sem.run_pure, Result.andThen_ok, pure_bind, bind_assoc, map_eq_pure_bind, Try.sizeOf26, Value.cells]
  rw [h]
  rfl⟩
-- 157 (int, int, api.Errno)
-- 159 word.Reader
instance : Agg Try.prog 159 2 := ⟨Try.isAgg159, Try.sizeOf159⟩
instance : ZeroOf Try.prog 159 [.slice none 0 0, .bool false] := ⟨⟨_, Try.zeroValue159, rfl⟩⟩
instance : Fld Try.prog 159 0 0 := ⟨fun _ _ _ => by kernel_rfl⟩
instance : Fld Try.prog 159 1 1 := ⟨fun _ _ _ => by kernel_rfl⟩
instance : Build Try.prog 159 [.slice none 0 0, .bool false] [(0, 1), (1, 1)] := ⟨fun w parts cells h => by
  simp only [Instr.build, Sem.run_bind, Try.zeroValue159, run_underlying Try.underlying159, Result.andThen_ok]
  simp only [List.mapM_toArray, List.mapM_cons, List.mapM_nil, Sem.run_bind, Sem.run_map, Sem.run_pure, Result.andThen_ok, pure_bind, bind_assoc, map_eq_pure_bind, Try.sizeOf26, Try.sizeOf4, Value.cells]
  rw [h]
  rfl⟩
-- 160 []*int
instance : One Try.prog 160 := ⟨Try.isAgg160, Try.sizeOf160⟩
instance : ZeroOf Try.prog 160 [.slice none 0 0] := ⟨⟨_, Try.zeroValue160, rfl⟩⟩
instance : SliceOf Try.prog 160 155 1 8 := ⟨Try.underlying160, by kernel_rfl, by decide, ⟨.pointer none, by kernel_rfl, rfl⟩⟩
end Go.Proofs.Ytphcnaafhcfakaa

namespace Go.Hb

theorem Stores.osl {P : Program} {T : TypeId} {q b o i n c : Nat} {v : Value} {vs xs : List Value} {E : TypeId} {sz : Nat} (h : Sz P T q) (hv : v.cells = vs.toArray) (h1 : vs.all Value.oneCell' = true) (hm : vs.length = q) (hb : i + vs.length ≤ xs.length) :
    Stores P T ⟨b, o + i, none⟩ v (osl (.slice (some ⟨b, o, none⟩) n c) E sz n xs) (osl (.slice (some ⟨b, o, none⟩) n c) E sz n (splice xs i vs)) := by
  intro w hw
  have hw' : w.ownsRow 0 E sz (.slice (some ⟨b, o, none⟩) n c) n xs := hw
  obtain ⟨hl, hr⟩ := hw'
  rcases hr with ⟨he, _⟩ | ⟨g, cap, cur, he, hbg, hg, hnc, hcm, hcs, htake⟩
  · cases he
  simp only [Value.slice.injEq, Option.some.injEq, Addr.mk.injEq, and_true, true_and] at he
  obtain ⟨⟨rfl, rfl⟩, rfl⟩ := he
  have hxs : xs.length ≤ cur.toList.length := by rw [← htake]; simp; omega
  have hg' : w.heap[b]? = some (.cells cur.toList.toArray E (0, 0)) := by simpa using hg
  have hrun := run_storeVar (P := P) h w b i v vs cur.toList E hv hm hg' (by omega) h1
  rw [Nat.zero_add]
  refine ⟨_, hrun, ⟨Keep.setRow w b _ _ E hg' rfl, ?_, fun k hk => .inl hk⟩⟩
  refine ⟨by simp [splice]; omega, .inr ⟨b, c, (splice cur.toList i vs).toArray, rfl, hbg, setRow_heap w b _ _ E (0, 0) hg', hnc, hcm, ?_, ?_⟩⟩
  · simp [splice]; simp at hxs; omega
  · have e2 : splice cur.toList i vs = splice xs i vs ++ cur.toList.drop xs.length := by
      have e3 : cur.toList = xs ++ cur.toList.drop xs.length := by
        conv => lhs; rw [← List.take_append_drop xs.length cur.toList]
        congr 1
        rw [← htake]; simp
      rw [e3]
      unfold splice
      rw [List.take_append_of_le_length (by omega), List.drop_append_of_le_length (by omega)]
      simp
    have e4 : (splice xs i vs).length = xs.length := by simp [splice]; omega
    show (splice cur.toList i vs).take _ = splice xs i vs
    rw [e2]
    rw [List.take_append_of_le_length (by omega), List.take_of_length_le (by omega)]
theorem LR_cls_cw {P : Program} {n : Nat} {c : Code} {Q : Post} {f : Frm} {C : World → Prop} (h : ∀ w, C w → CW P n c Q f (fun u => u = w)) : CW P n c Q f C := fun w hw => h w hw w rfl
theorem splice_bv (l : List Int) (i : Nat) (x : Int) (h : i < l.length) : splice (bv l) i [.int .u8 x] = bv (l.set i x) := by
  unfold splice bv
  rw [List.set_eq_take_append_cons_drop, if_pos h]
  simp

def TW (P : Program) (n : Nat) (ops l : List Oper) (K : Frm → Prop) (f : Frm) (C : World → Prop) : Prop :=
  ∀ w, C w → ∀ a, Fits n a f → wpStill P ops.toArray w (fun a' => ∃ f', Fits n a' f' ∧ K f') l a
section
variable {P : Program} {n : Nat} {ops rest : List Oper} {K : Frm → Prop} {f : Frm} {C : World → Prop} {op : Op} {T : TypeId} {p : String} {af : Array Edge} {d : Nat} {v : Value} {Q : Post}
theorem TW.nil (h : K f) : TW P n ops [] K f C := fun _ _ _ ha => wpStill_nil ⟨f, ha, h⟩
theorem TW.ev (he : Ev P C f op T v) (hd : Nat.blt d n = true) (k : TW P n ops rest K (upd f d v) C) : TW P n ops (⟨some d, op, T, p, af, none⟩ :: rest) K f C := by
  intro w hw a ha
  refine wpStill_step fun K' hK => ?_
  simp only [Region.wanted, if_true]
  have hr := he w hw (some d) p af none
  rw [← ha.eval] at hr
  simp only [Oper.still, hr, Oper.stillUpon_value]
  exact hK _ (k w hw _ (ha.put v hd))
theorem TW.yes {dst : Option Tmp} {j dj : Nat} {b : Bool} (hj : (ops[j]?).bind (·.dst) = some dj) (hb : f dj = .bool b) (k : TW P n ops (⟨dst, op, T, p, af, none⟩ :: rest) K f C) : TW P n ops (⟨dst, op, T, p, af, some (j, b)⟩ :: rest) K f C := by
  intro w hw a ha
  have hwt : Region.wanted (⟨dst, op, T, p, af, some (j, b)⟩ : Oper) (yielded ops.toArray a.tmps) = true := by
    simp only [Region.wanted]; rw [yielded_of ha hj, hb]; simp
  have := k w hw a ha
  simp only [wpStill] at this ⊢
  rw [if_pos (by simp [Region.wanted])] at this
  rw [if_pos hwt]
  exact this
theorem TW.no {j dj : Nat} {b : Bool} (hj : (ops[j]?).bind (·.dst) = some dj) (hb : noV (f dj) b = true) (hd : Nat.blt d n = true) (k : TW P n ops rest K (upd f d undef) C) : TW P n ops (⟨some d, op, T, p, af, some (j, b)⟩ :: rest) K f C := by
  intro w hw a ha
  have hwt : ¬ Region.wanted (⟨some d, op, T, p, af, some (j, b)⟩ : Oper) (yielded ops.toArray a.tmps) = true := by
    simp only [Region.wanted]; rw [yielded_of ha hj]
    cases hx : f dj <;> rw [hx] at hb <;> simp [noV] at hb ⊢
    exact fun e => hb e
  have := k w hw _ (ha.put undef hd)
  simp only [wpStill]
  rw [if_neg hwt]
  exact this
theorem TW.call {g : FuncId} {xs : List Operand} {ts : Array TypeId} [own : Own P g] (hd : Nat.blt d n = true)
    (h : ∀ w, C w → CallsTo P g (xs.map f.ev) w fun u w' => u = v ∧ w' = w) (k : TW P n ops rest K (upd f d v) C) :
    TW P n ops (⟨some d, .call ⟨.value (.func g), xs.toArray, ts⟩, T, p, af, none⟩ :: rest) K f C := by
  intro w hw a ha
  refine wpStill_step fun K' hK => ?_
  simp only [Region.wanted, if_true]
  have hr := run_call_func (f := f) (T := T) (p := p) (af := af) (ts := ts) (dst := some d) (gd := none) (xs := xs) (cap := []) (x := .func g) w rfl own
  rw [← ha.eval] at hr
  simp only [Oper.still, hr, Oper.stillUpon]
  rw [ha.eval, List.append_nil]
  exact ⟨trivial, v, Calls.mono (h w hw) fun e w' ⟨u, he, hu, hC⟩ => by subst hu; exact ⟨he, hC⟩, hK _ (k w hw _ (ha.put v hd))⟩
end
end Go.Hb

namespace Go.Hb
class Nx (G : Prop) (H : outParam Prop) : Prop where
  go : H → G
theorem jJ {G H : Prop} [h : Nx G H] (k : H) : G := h.go k
section
variable {P : Program} {n : Nat} {Q : Post} {f g : Frm} {C : World → Prop} {m : Bool} {ops : List Oper}
instance {x y : Code} : Nx (CW P n (.seq x y) Q f C) (CW P n x (thn P n y Q) f C) := ⟨CW.seq⟩
instance {id : Nat} {l : List Oper} : Nx (CW P n (.region id ⟨l⟩ false) Q f C) (LR false P n l l Q f C) := ⟨CW.reg⟩
instance {id : Nat} {l : List Oper} : Nx (CW P n (.region id l.toArray false) Q f C) (LR false P n l l Q f C) := ⟨CW.reg⟩
instance {id : Nat} {c : Code} : Nx (CW P n (.block id c) Q f C) (CW P n c (blk id Q) f C) := ⟨CW.block⟩
instance : Nx (CW P n .ret Q f C) (At Q .ret f C) := ⟨CW.ret⟩
instance : Nx (CW P n .skip Q f C) (At Q .normal f C) := ⟨CW.skip⟩
instance {id : Nat} : Nx (CW P n (.exit id) Q f C) (At Q (.exit id) f C) := ⟨CW.exit⟩
instance {l : Nat} : Nx (CW P n (.label l) Q f C) (At Q .normal f C) := ⟨CW.label⟩
instance {c : Code} : Nx (CW P n (.scope c) Q f C) (CW P n c (noG Q) f C) := ⟨CW.scope⟩
instance {y : Code} : Nx (At (thn P n y Q) .normal f C) (CW P n y Q f C) := ⟨At.thn⟩
instance {y : Code} : Nx (At (thn P n y Q) .ret f C) (At Q .ret f C) := ⟨fun h => h⟩
instance {y : Code} {id : Nat} : Nx (At (thn P n y Q) (.exit id) f C) (At Q (.exit id) f C) := ⟨fun h => h⟩
instance {id : Nat} : Nx (At (blk id Q) .normal f C) (At Q .normal f C) := ⟨fun h => h⟩
instance {id : Nat} : Nx (At (blk id Q) .ret f C) (At Q .ret f C) := ⟨fun h => h⟩
instance {id : Nat} : Nx (At (blk id Q) (.exit id) f C) (At Q .normal f C) := ⟨At.blk_here⟩
instance : Nx (At (noG Q) .normal f C) (At Q .normal f C) := ⟨fun h => h⟩
instance : Nx (At (noG Q) .ret f C) (At Q .ret f C) := ⟨fun h => h⟩
instance {id : Nat} : Nx (At (noG Q) (.exit id) f C) (At Q (.exit id) f C) := ⟨fun h => h⟩
instance {α : Type} {M : List Nat} {I : α → Prop} {vs : α → List (Nat × Value)} {D : α → World → Prop} {μ : α → Nat} {i : α} : Nx (At (again M f I vs D μ i Q) .ret g C) (At Q .ret g C) := ⟨fun h => h⟩
instance {α : Type} {M : List Nat} {I : α → Prop} {vs : α → List (Nat × Value)} {D : α → World → Prop} {μ : α → Nat} {i : α} {id : Nat} : Nx (At (again M f I vs D μ i Q) (.exit id) g C) (At Q (.exit id) g C) := ⟨fun h => h⟩
instance {y : Code} : Nx (LR m P n ops [] (thn P n y Q) f C) (CW P n y Q f C) := ⟨kN⟩
instance (priority := low) : Nx (LR m P n ops [] Q f C) (At Q .normal f C) := ⟨kM⟩
def selC (v : Value) (x y : Code) : Option Code := match v with | .bool true => some x | .bool false => some y | _ => none
theorem jE {c : Operand} {x y z : Code} (hb : selC (f.ev c) x y = some z) (h : CW P n z Q f C) : CW P n (.cond c x y) Q f C := by
  cases hv : f.ev c <;> rw [hv] at hb <;> simp only [selC, reduceCtorEq] at hb
  rename_i b
  cases b
  · simp only [Option.some.injEq] at hb; subst hb; exact CW.cond_false hv h
  · simp only [Option.some.injEq] at hb; subst hb; exact CW.cond_true hv h
end
inductive InL : List Asrt → Nat → Nat → Nat → List Value → Prop
  | own {b q : Nat} {cs : List Value} {E : TypeId} {fr : Nat × Nat} {L : List Asrt} : InL (.own b (.cells cs.toArray E fr) :: L) b q q cs
  | rd {b o q : Nat} {xs : List Value} {L : List Asrt} (h : Nat.ble o q = true) : InL (rdA (some ⟨b, o, none⟩) xs :: L) b q (q - o) xs
  | tail {x : Asrt} {L : List Asrt} {b q j : Nat} {cs : List Value} (h : InL L b q j cs) : InL (x :: L) b q j cs
theorem iO {b q : Nat} {cs : List Value} {E : TypeId} {fr : Nat × Nat} {L : List Asrt} : InL (.own b (.cells cs.toArray E fr) :: L) b q q cs := .own
theorem iR {b o q : Nat} {xs : List Value} {L : List Asrt} (h : Nat.ble o q = true) : InL (rdA (some ⟨b, o, none⟩) xs :: L) b q (q - o) xs := .rd h
theorem iT {x : Asrt} {L : List Asrt} {b q j : Nat} {cs : List Value} (h : InL L b q j cs) : InL (x :: L) b q j cs := .tail h
theorem InL.get {b q j : Nat} {cs : List Value} : ∀ {L L2 : List Asrt} {w0 w : World} {F : Nat → Prop}, InL L b q j cs → St w0 F L2 w → (∀ x ∈ L, x ∈ L2) → ∀ i v, cs[j + i]? = some v → w.cell? ⟨b, q + i, none⟩ = some v
  | _, _, w0, w, F, .own, hS, hm, i, v, hv => by
    rw [cell_own (hS.own_at (hm _ (mH _ _)))]
    simpa using hv
  | _, _, w0, w, F, .rd (o := o) h, hS, hm, i, v, hv => by
    have := (hS.rd_of (hm _ (mH _ _))).cell hv
    rwa [show o + (q - o + i) = q + i by have := Nat.le_of_ble_eq_true h; omega] at this
  | _, _, w0, w, F, .tail h, hS, hm, i, v, hv => InL.get h hS (fun x hx => hm x (mT _ hx)) i v hv
section
variable {m : Bool} {P : Program} {n : Nat} {ops rest : List Oper} {Q : Post} {f : Frm} {C : World → Prop} {op : Op} {T T' T'' : TypeId} {p : String} {af : Array Edge} {d : Nat} {v : Value} {x y : Operand} {w0 : World} {F : Nat → Prop} {L L' : List Asrt}
theorem Ez {b q j : Nat} {cs : List Value} [h : One P T] (hx : f.ev x = .pointer (some ⟨b, q, none⟩)) (hm : InL L b q j cs) (hc : cs[j]? = some v) : Ev P (St w0 F L) f (.load T x) T' v :=
  Ev.load hx fun w hw => by have := hm.get hw (fun _ h => h) 0 v (by simpa using hc); simpa using this
theorem Ey {b q j k : Nat} {cs : List Value} [h : Agg P T k] (hx : f.ev x = .pointer (some ⟨b, q, none⟩)) (hm : InL L b q j cs) (hl : Nat.ble (j + k) cs.length = true) : Ev P (St w0 F L) f (.load T x) T' (.agg ((cs.drop j).take k).toArray) := by
  have h1 := Nat.le_of_ble_eq_true hl
  refine Ev.load_agg_at hx (by simp; omega) fun w hw i v hi => ?_
  rw [List.getElem?_take] at hi
  split at hi
  · rw [List.getElem?_drop] at hi
    rw [addr_add]
    exact hm.get hw (fun _ h => h) i v hi
  · cases hi
theorem kU {b o q : Nat} {cs vs cs' : List Value} {E : TypeId} [h : Sz P T q] (hx : f.ev x = .pointer (some ⟨b, o, none⟩)) (hv : cellV (f.ev y) = some vs)
    (hs : Sel L (.own b (.cells cs.toArray E (0, 0))) (.own b (.cells cs'.toArray E (0, 0))) L')
    (hn : splice cs o vs = cs') (h1 : (vs.all Value.oneCell' && Nat.beq vs.length q && Nat.ble (o + vs.length) cs.length) = true)
    (k : LR false P n ops rest Q f (St w0 F L')) : LR false P n ops (⟨none, .store T x y, T', p, af, none⟩ :: rest) Q f (St w0 F L) := by
  subst hn
  exact kS hx hv hs h1 k
def bsN (f : Frm) (sz : Nat) : List (Nat × Operand) → Option (List Value)
  | [] => some []
  | (_, x) :: ps => match bsN f sz ps with
    | some cs => (match f.ev x with
      | .int k a => (match Nat.beq sz 1 with | true => some (.int k a :: cs) | false => none)
      | .pointer a => (match Nat.beq sz 1 with | true => some (.pointer a :: cs) | false => none)
      | .slice a l c => (match Nat.beq sz 1 with | true => some (.slice a l c :: cs) | false => none)
      | .agg ⟨vs⟩ => (match Nat.beq vs.length sz with | true => some (vs ++ cs) | false => none)
      | _ => none)
    | none => none
theorem bsN_BS {sz : Nat} : ∀ {ps : List (Nat × Operand)} {cs : List Value}, bsN f sz ps = some cs → BS f sz ps cs
  | [], cs, h => by simp only [bsN, Option.some.injEq] at h; subst h; exact BS.nil _
  | (i, x) :: ps, cs, h => by
    simp only [bsN] at h
    split at h
    · rename_i r hr
      have ih := bsN_BS hr
      split at h
      · rename_i hx; split at h
        · rename_i hs; cases Nat.eq_of_beq_eq_true hs; cases h; exact BS.int hx ih
        · cases h
      · rename_i hx; split at h
        · rename_i hs; cases Nat.eq_of_beq_eq_true hs; cases h; exact BS.ptr hx ih
        · cases h
      · rename_i hx; split at h
        · rename_i hs; cases Nat.eq_of_beq_eq_true hs; cases h; exact BS.slice hx ih
        · cases h
      · rename_i hx; split at h
        · rename_i hs; cases h; exact BS.agg hx (Nat.eq_of_beq_eq_true hs) ih
        · cases h
      · cases h
    · cases h
theorem kK {E : TypeId} {sz by_ len : Nat} [h : SliceOf P T E sz by_] {parts : List (Nat × Operand)} {cs : List Value} (hd : Nat.blt d n = true) (hlen : Nat.ble (len * sz) 100000 = true)
    (hp : parts.map (·.1) = List.range len) (hb : bsN f sz parts = some cs)
    (k : ∀ b, LR false P n ops rest Q (upd f d (.slice (some ⟨b, 0, none⟩) len len)) (St w0 F (.own b (.cells cs.toArray E (0, 0)) :: L))) :
    LR false P n ops (⟨some d, .buildSlice T len parts.toArray, T', p, af, none⟩ :: rest) Q f (St w0 F L) := kL hd hlen hp (bsN_BS hb) k
theorem addX {a b : Int} (hx : f.ev x = .int .i64 a) (hy : f.ev y = .int .i64 b) (h1 : -9223372036854775808 ≤ a + b) (h2 : a + b ≤ 9223372036854775807) (hd : Nat.blt d n = true) (k : LR m P n ops rest Q (upd f d (.int .i64 (a + b))) C) :
    LR m P n ops (⟨some d, .binOp .add T' x y T'', T, p, af, none⟩ :: rest) Q f C := LR.ev (Ev.add hx hy h1 h2) hd k
theorem subX {a b : Int} (hx : f.ev x = .int .i64 a) (hy : f.ev y = .int .i64 b) (h1 : -9223372036854775808 ≤ a - b) (h2 : a - b ≤ 9223372036854775807) (hd : Nat.blt d n = true) (k : LR m P n ops rest Q (upd f d (.int .i64 (a - b))) C) :
    LR m P n ops (⟨some d, .binOp .sub T' x y T'', T, p, af, none⟩ :: rest) Q f C := LR.ev (Ev.sub hx hy h1 h2) hd k
theorem mulX {a b : Int} (hx : f.ev x = .int .i64 a) (hy : f.ev y = .int .i64 b) (h1 : -9223372036854775808 ≤ a * b) (h2 : a * b ≤ 9223372036854775807) (hd : Nat.blt d n = true) (k : LR m P n ops rest Q (upd f d (.int .i64 (a * b))) C) :
    LR m P n ops (⟨some d, .binOp .mul T' x y T'', T, p, af, none⟩ :: rest) Q f C := LR.ev (Ev.mul hx hy h1 h2) hd k
theorem idxX {E : TypeId} {sz by_ b o l c : Nat} {q : IntKind} {i : Int} [h : SliceOf P T' E sz by_] (hx : f.ev x = .slice (some ⟨b, o, none⟩) l c) (hy : f.ev y = .int q i) (h0 : 0 ≤ i) (h1 : i < l) (hd : Nat.blt d n = true)
    (k : LR m P n ops rest Q (upd f d (.pointer (some ⟨b, o + i.toNat * sz, none⟩))) C) : LR m P n ops (⟨some d, .indexAddr T' x y, T, p, af, none⟩ :: rest) Q f C := LR.ev (Ev.indexAddr hx hy h0 h1) hd k
end
theorem hcs : (∀ (p : Prop) [Decidable p], (decide p = true) = p) ∧ (∀ (p : Prop) [Decidable p], (decide p = false) = ¬p) ∧ (∀ b : Bool, ((!b) = true) = (b = false)) ∧ (∀ b : Bool, ((!b) = false) = (b = true)) ∧
    (∀ b : Bool, (¬b = true) = (b = false)) ∧ (∀ b : Bool, (¬b = false) = (b = true)) ∧ (!true) = false ∧ (!false) = true ∧ (∀ a b : Int, (¬a < b) = (b ≤ a)) ∧ (∀ a b : Int, (¬a ≤ b) = (b < a)) ∧
    (∀ (α : Type) (a b : α) (l r : List α), (a :: l = b :: r) = (a = b ∧ l = r)) ∧ (∀ p : Prop, (p ∧ True) = p) ∧ (∀ (α : Type) [BEq α] [LawfulBEq α] (a b : α), ((a == b) = true) = (a = b)) ∧ (∀ (α : Type) [BEq α] [LawfulBEq α] (a b : α), ((a == b) = false) = (a ≠ b)) := by
  refine ⟨fun p _ => by simp, fun p _ => by simp, by simp, by simp, by simp, by simp, rfl, rfl, fun a b => by simp, fun a b => by simp, fun _ _ _ _ _ => by simp, by simp, fun _ _ _ _ _ => by simp, fun _ _ _ _ _ => by simp⟩
section
variable {m : Bool} {P : Program} {n : Nat} {ops rest : List Oper} {Q : Post} {f : Frm} {C S : World → Prop} {op : Op} {T T' T'' : TypeId} {p : String} {af : Array Edge} {d : Nat} {v : Value} {x y : Operand} {L L' : List Asrt} {K : Frm → Prop} {r : List Nat} {i j dj : Nat} {b : Bool}
theorem kv' (k : LR m P n ops rest Q (upd f d v) C) (he : Ev P C f op T v := by first | exact evV_sound rfl | ((first | apply Ez | apply Ey); (· exact rfl); (· repeat (first | exact iO | exact iR rfl | apply iT)); exact rfl) | ((first | apply Ev.fieldAddr | apply Ev.len | apply EqOf.eq | apply EqOf.ne | apply Ev.conv | apply Ev.buildN); exact rfl) | ((first | apply Ev.shr | apply Ev.shl); (iterate 2 exact rfl); first | decide | omega)) (hd : Nat.blt d n = true := by exact rfl) :
    LR m P n ops (⟨some d, op, T, p, af, none⟩ :: rest) Q f C := LR.ev he hd k
theorem yv' (k : QL P n ops S K r (upd f d v)) (hi : ops[i]? = some ⟨some d, op, T, p, af, none⟩ := by exact rfl) (he : Ev P S f op T v := by first | exact evV_sound rfl | ((first | apply Ez | apply Ey); (· exact rfl); (· repeat (first | exact iO | exact iR rfl | apply iT)); exact rfl) | ((first | apply Ev.fieldAddr | apply Ev.len | apply EqOf.eq | apply EqOf.ne | apply Ev.conv | apply Ev.buildN); exact rfl) | ((first | apply Ev.shr | apply Ev.shl); (iterate 2 exact rfl); first | decide | omega)) (hd : Nat.blt d n = true := by exact rfl) :
    QL P n ops S K (i :: r) f := QL.ev hi he hd k
theorem uv' (k : QL P n ops S K r (upd f d v)) (hi : ops[i]? = some ⟨some d, op, T, p, af, some (j, b)⟩ := by exact rfl) (hj : (ops[j]?).bind (·.dst) = some dj := by exact rfl) (hb : f dj = .bool b := by exact rfl) (he : Ev P S f op T v := by first | exact evV_sound rfl | ((first | apply Ez | apply Ey); (· exact rfl); (· repeat (first | exact iO | exact iR rfl | apply iT)); exact rfl) | ((first | apply Ev.fieldAddr | apply Ev.len | apply EqOf.eq | apply EqOf.ne | apply Ev.conv | apply Ev.buildN); exact rfl) | ((first | apply Ev.shr | apply Ev.shl); (iterate 2 exact rfl); first | decide | omega)) (hd : Nat.blt d n = true := by exact rfl) :
    QL P n ops S K (i :: r) f := QL.evg hi hj hb he hd k
theorem un' (k : QL P n ops S K r (upd f d undef)) (hi : ops[i]? = some ⟨some d, op, T, p, af, some (j, b)⟩ := by exact rfl) (hj : (ops[j]?).bind (·.dst) = some dj := by exact rfl) (hb : noV (f dj) b = true := by exact rfl) (hd : Nat.blt d n = true := by exact rfl) : QL P n ops S K (i :: r) f := yn hi hj hb hd k
theorem us' {c : Bool} (yes : c = true → QL P n ops S K (i :: r) (upd f dj (.bool true))) (no : c = false → QL P n ops S K (i :: r) (upd f dj (.bool false))) (hi : ops[i]? = some ⟨some d, op, T, p, af, some (j, b)⟩ := by exact rfl) (hj : (ops[j]?).bind (·.dst) = some dj := by exact rfl) (hb : f dj = .bool c := by exact rfl) : QL P n ops S K (i :: r) f := QL.split hi hj hb yes no
theorem jE' {c : Operand} {x y z : Code} (h : CW P n z Q f C) (hb : selC (f.ev c) x y = some z := by exact rfl) : CW P n (.cond c x y) Q f C := jE hb h
theorem jp' {id j : Nat} (h : At Q (.exit j) f C) (hj : Nat.beq j id = false := by exact rfl) : At (blk id Q) (.exit j) f C := jp hj h
theorem kg' {dst : Option Tmp} (k : LR m P n ops (⟨dst, op, T, p, af, none⟩ :: rest) Q f C) (hj : (ops[j]?).bind (·.dst) = some dj := by exact rfl) (hb : f dj = .bool b := by exact rfl) : LR m P n ops (⟨dst, op, T, p, af, some (j, b)⟩ :: rest) Q f C := kg hj hb k
theorem kG' (k : LR m P n ops rest Q (upd f d undef) C) (hj : (ops[j]?).bind (·.dst) = some dj := by exact rfl) (hb : noV (f dj) b = true := by exact rfl) (hd : Nat.blt d n = true := by exact rfl) : LR m P n ops (⟨some d, op, T, p, af, some (j, b)⟩ :: rest) Q f C := kG hj hb hd k
theorem kR' {op' : Op} {dst : Option Tmp} {c : Bool} (yes : c = true → LR m P n ops (⟨dst, op', T, p, af, some (j, b)⟩ :: rest) Q (upd f dj (.bool true)) C)
    (no : c = false → LR m P n ops (⟨dst, op', T, p, af, some (j, b)⟩ :: rest) Q (upd f dj (.bool false)) C) (hj : (ops[j]?).bind (·.dst) = some dj := by exact rfl) (hb : f dj = .bool c := by exact rfl) :
    LR m P n ops (⟨dst, op', T, p, af, some (j, b)⟩ :: rest) Q f C := kR hj hb yes no
theorem kQ' {c : Operand} {s t : Code} (ht : b = true → CW P n s Q f C) (hf : b = false → CW P n t Q f C) (hb : f.ev c = .bool b := by exact rfl) : CW P n (.cond c s t) Q f C := kQ hb ht hf
end
section
variable {m : Bool} {P : Program} {n : Nat} {ops rest : List Oper} {Q : Post} {f : Frm} {F : Nat → Prop} {w0 : World} {T T' T'' : TypeId} {p : String} {af : Array Edge} {d : Nat} {x y : Operand} {L L' : List Asrt}
theorem kB' {cs : List Value} (k : ∀ b, LR false P n ops rest Q (upd f d (.pointer (some ⟨b, 0, none⟩))) (St w0 F (.own b (.cells cs.toArray T (0, 0)) :: L))) (hv : cellV (f.ev x) = some cs := by exact rfl) (hd : Nat.blt d n = true := by exact rfl) :
    LR false P n ops (⟨some d, .box T x, T', p, af, none⟩ :: rest) Q f (St w0 F L) := kB hv hd k
theorem kA' {cs : List Value} [h : ZeroOf P T cs] (k : ∀ b, LR false P n ops rest Q (upd f d (.pointer (some ⟨b, 0, none⟩))) (St w0 F (.own b (.cells cs.toArray T (0, 0)) :: L))) (hd : Nat.blt d n = true := by exact rfl) :
    LR false P n ops (⟨some d, .alloc T, T', p, af, none⟩ :: rest) Q f (St w0 F L) := kA hd k
theorem kK' {E : TypeId} {sz by_ len : Nat} [h : SliceOf P T E sz by_] {parts : List (Nat × Operand)} {cs : List Value} (k : ∀ b, LR false P n ops rest Q (upd f d (.slice (some ⟨b, 0, none⟩) len len)) (St w0 F (.own b (.cells cs.toArray E (0, 0)) :: L)))
    (hd : Nat.blt d n = true := by exact rfl) (hlen : Nat.ble (len * sz) 100000 = true := by exact rfl) (hp : parts.map (·.1) = List.range len := by exact rfl) (hb : bsN f sz parts = some cs := by exact rfl) :
    LR false P n ops (⟨some d, .buildSlice T len parts.toArray, T', p, af, none⟩ :: rest) Q f (St w0 F L) := kK hd hlen hp hb k
theorem kU' {b o q : Nat} {cs vs cs' : List Value} {E : TypeId} [h : Sz P T q] (k : LR false P n ops rest Q f (St w0 F L')) (hx : f.ev x = .pointer (some ⟨b, o, none⟩) := by exact rfl) (hv : cellV (f.ev y) = some vs := by exact rfl)
    (hs : Sel L (.own b (.cells cs.toArray E (0, 0))) (.own b (.cells cs'.toArray E (0, 0))) L' := by (repeat (first | exact sH _ _ _ | apply sT)); done)
    (hn : splice cs o vs = cs' := by first | exact nfL_eq rfl | exact rfl) (h1 : (vs.all Value.oneCell' && Nat.beq vs.length q && Nat.ble (o + vs.length) cs.length) = true := by exact rfl) :
    LR false P n ops (⟨none, .store T x y, T', p, af, none⟩ :: rest) Q f (St w0 F L) := kU hx hv hs hn h1 k
end
theorem memZ {a : Asrt} {L : List Asrt} (h : a ∈ L := by (repeat (first | exact mH _ _ | apply mT))) : a ∈ L := h
theorem selZ {L L' : List Asrt} {a a' : Asrt} (h : Sel L a a' L' := by (repeat (first | exact sH _ _ _ | apply sT))) : Sel L a a' L' := h
theorem subZ {L L' : List Asrt} (h : L'.Sublist L := by (repeat (first | exact List.Sublist.refl _ | apply List.Sublist.cons_cons | apply List.Sublist.cons))) : L'.Sublist L := h
end Go.Hb

namespace Go.Proofs.Ytphcnaafhcfakaa
open Go.Hb
attribute [local irreducible] LR CW At Ev thn blk finK noG again CallsTo
set_option maxRecDepth 100000

def NewB (w w' : World) (v : Value) (l : List Int) : Prop := ∃ a c, v = .slice a l.length c ∧ NewSl w w' (.slice a l.length c) 5 1 l.length (bv l)

theorem c22 (a : Option Addr) (ca : Nat) (l : List Int) (w : World) (hr : Rd w a (bv l)) (hz : a = none → ca = 0) (hm : l.length ≤ 140737488355328) :
    CallsTo Try.prog 13 [.slice a l.length ca] w fun v w' => NewB w w' v l := by
  refine go_in (n := 8) (St.rd1 hr) Try.func13 rfl rfl ?_
  repeat'(first|refine kv' ?_|apply jJ|refine jE' ?_|refine jp' ?_|(apply jc;kernel_rfl)|refine kg' ?_|refine kG' ?_|refine kB' fun _=>?_|refine kA' fun _=>?_|refine kK' fun _=>?_|refine kU' ?_|(refine LR.append_nil (news := bv l) rfl rfl (fun w' hw' => hw'.rd_of (List.Mem.head _)) (fun hx => ⟨hr.none_len hx, hz hx⟩) (by simp) (bv_one l) (by omega) (by unfold maxLen; omega) rfl ?_; intro a' c')|((first|refine kR' ?_ ?_|refine kQ' ?_ ?_);all_goals(intro hc;try simp only[hcs]at hc;try(exfalso;first|contradiction|omega))))
  (apply ret1; (· exact rfl); intro w' hS)
  exact ⟨_, _, rfl, hS.toNew (List.Mem.head _)⟩

theorem c86 (a : Option Addr) (ca : Nat) (l : List Int) (w : World) (hr : Rd w a (bv l)) (hz : a = none → ca = 0) (hm : l.length ≤ 140737488355328) :
    CallsTo Try.prog 46 [.slice a l.length ca] w fun v w' => NewB w w' v l := by
  refine go_in (n := 8) (St.rd1 hr) Try.func46 rfl rfl ?_
  cases a with
  | none =>
    have h0 := hr.none_len rfl
    repeat'(first|refine kv' ?_|apply jJ|refine jE' ?_|refine jp' ?_|(apply jc;kernel_rfl)|refine kg' ?_|refine kG' ?_|refine kB' fun _=>?_|refine kA' fun _=>?_|refine kK' fun _=>?_|refine kU' ?_|((first|refine kR' ?_ ?_|refine kQ' ?_ ?_);all_goals(intro hc;try simp only[hcs]at hc;try(exfalso;first|contradiction|omega))))
    (apply ret1; (· exact rfl); intro w' hS)
    have hl : l = [] := List.eq_nil_of_length_eq_zero h0
    subst hl
    exact ⟨_, _, rfl, ⟨hS.toKeep, World.ownsRow_nil _ _ _ _⟩⟩
  | some ad =>
    repeat'(first|refine kv' ?_|apply jJ|refine jE' ?_|refine jp' ?_|(apply jc;kernel_rfl)|refine kg' ?_|refine kG' ?_|refine kB' fun _=>?_|refine kA' fun _=>?_|refine kK' fun _=>?_|refine kU' ?_|((first|refine kR' ?_ ?_|refine kQ' ?_ ?_);all_goals(intro hc;try simp only[hcs]at hc;try(exfalso;first|contradiction|omega))))
    refine LR.own_osl (k := 0) (sz := 1) (E := 5) (cs := []) (Sel.head _ _ _) (by simp) (by unfold maxLen; omega) ?_
    refine LR.append (xs := []) (news := bv l) rfl rfl (fun a' c' => Sel.head _ _ _) (fun w' hw' => hw'.rd_of (List.Mem.tail _ (List.Mem.head _))) (fun hx => ⟨hr.none_len hx, hz hx⟩) (by simp) (bv_one l) (by omega) (by unfold maxLen; omega) rfl ?_
    intro a' c'
    repeat'(first|refine kv' ?_|apply jJ|refine jE' ?_|refine jp' ?_|(apply jc;kernel_rfl)|refine kg' ?_|refine kG' ?_|refine kB' fun _=>?_|refine kA' fun _=>?_|refine kK' fun _=>?_|refine kU' ?_|((first|refine kR' ?_ ?_|refine kQ' ?_ ?_);all_goals(intro hc;try simp only[hcs]at hc;try(exfalso;first|contradiction|omega))))
    (apply ret1; (· exact rfl); intro w' hS)
    simp only [Nat.zero_add, List.nil_append] at hS
    exact ⟨a', c', by show Value.slice a' (0 + l.length) c' = _; rw [Nat.zero_add], hS.toNew (List.Mem.head _)⟩

def wrF (bw : Nat) (a : Option Addr) : Nat → Prop := fun k => k = bw ∨ ∃ ad, a = some ad ∧ k = ad.block
def wrP (T : Nat) (ex : List Value) (bw : Nat) (a : Option Addr) (c : Nat) (l : List Int) : World → Prop := fun w =>
  w.heap[bw]? = some (.cells (.slice a l.length c :: ex).toArray T (0, 0)) ∧ w.ownsRow 0 5 1 (.slice a l.length c) l.length (bv l) ∧ ∀ ad, a = some ad → ad.block ≠ bw
def wrA (T : Nat) (ex : List Value) (bw : Nat) (a : Option Addr) (c : Nat) (l : List Int) : Asrt := .ex (wrF bw a) (wrP T ex bw a c l)
def wr1 (T : Nat) (ex : List Value) (bw : Nat) (a : Option Addr) (c : Nat) (l : List Int) : Asrt := .own bw (.cells (.slice a l.length c :: ex).toArray T (0, 0))
def wr2 (a : Option Addr) (c : Nat) (l : List Int) : Asrt := osl (.slice a l.length c) 5 1 l.length (bv l)

theorem wrA_dep {T : Nat} {ex : List Value} (bw : Nat) (a : Option Addr) (c : Nat) (l : List Int) : (wrA T ex bw a c l).dep := by
  intro w w' hk ⟨h1, h2, h3⟩
  refine ⟨by rw [hk bw (.inl rfl)]; exact h1, ?_, h3⟩
  refine osl.dep _ _ _ _ _ w w' (fun k hk2 => hk k ?_) h2
  simp only [osl, Asrt.foot] at hk2
  cases a with
  | none => simp [Value.ownBlock] at hk2
  | some ad => simp [Value.ownBlock] at hk2; exact .inr ⟨ad, rfl, hk2.symm⟩

theorem wr_live {T : Nat} {ex : List Value} {w : World} {bw : Nat} {a : Option Addr} {c : Nat} {l : List Int} (h : wrP T ex bw a c l w) : ∀ k, wrF bw a k → k < w.heap.size := by
  rintro k (rfl | ⟨ad, rfl, rfl⟩)
  · exact (Array.getElem?_eq_some_iff.1 h.1).1
  · exact (h.2.1.lt _ rfl).2

theorem wr_open {T : Nat} {ex : List Value} {w0 w : World} {F : Nat → Prop} {R : List Asrt} {bw : Nat} {a : Option Addr} {c : Nat} {l : List Int} (h : St w0 F (wrA T ex bw a c l :: R) w) : St w0 F (wr1 T ex bw a c l :: wr2 a c l :: R) w := by
  have hh : wrP T ex bw a c l w := h.holds _ (List.Mem.head _)
  refine h.split rfl hh.1 hh.2.1 (fun k hk => .inl hk) (fun k hk => ?_) (fun k hk hk2 => ?_) (Asrt.dep_own _ _) (osl.dep _ _ _ _ _)
  · cases a with
    | none => simp [wr2, osl, Asrt.foot, Value.ownBlock] at hk
    | some ad => simp [wr2, osl, Asrt.foot, Value.ownBlock] at hk; exact .inr ⟨ad, rfl, hk.symm⟩
  · have hk' : k = bw := hk
    subst hk'
    cases a with
    | none => simp [wr2, osl, Asrt.foot, Value.ownBlock] at hk2
    | some ad => simp [wr2, osl, Asrt.foot, Value.ownBlock] at hk2; exact hh.2.2 ad rfl hk2
theorem wr_shut {T : Nat} {ex : List Value} {w0 w : World} {F : Nat → Prop} {R : List Asrt} {bw : Nat} {a : Option Addr} {c : Nat} {l : List Int} (h : St w0 F (wr1 T ex bw a c l :: wr2 a c l :: R) w) : St w0 F (wrA T ex bw a c l :: R) w := by
  refine h.merge rfl rfl ⟨h.holds _ (List.Mem.head _), h.holds _ (List.Mem.tail _ (List.Mem.head _)), fun ad ha hb => ?_⟩ (fun k hk => ?_) (wrA_dep _ _ _ _)
  · obtain ⟨d1, _⟩ := List.pairwise_cons.1 h.dis
    exact d1 (wr2 a c l) (by simp) rfl bw rfl (by subst ha; simp [wr2, osl, Asrt.foot, Value.ownBlock, hb])
  · rcases hk with hk | ⟨ad, rfl, rfl⟩
    · exact .inl hk
    · exact .inr (by simp [wr2, osl, Asrt.foot, Value.ownBlock])
theorem wr_start {T : Nat} {ex : List Value} {w : World} {bw : Nat} {a : Option Addr} {c : Nat} {l : List Int} (h : wrP T ex bw a c l w) : St w (wrF bw a) [wr1 T ex bw a c l, wr2 a c l] w :=
  wr_open (St.one (a := wrA T ex bw a c l) h (wr_live h) (wrA_dep _ _ _ _))
theorem wr_end {T : Nat} {ex : List Value} {w w' : World} {R : List Asrt} {bw : Nat} {a a' : Option Addr} {c c' : Nat} {l l' : List Int} (h : St w (wrF bw a) (wr1 T ex bw a' c' l' :: wr2 a' c' l' :: R) w') : Step (wrA T ex bw a c l) (wrA T ex bw a' c' l') w w' :=
  St.step (R := R) (wr_shut h) rfl
theorem wr_same {T : Nat} {ex : List Value} {w w' : World} {R : List Asrt} {bw : Nat} {a : Option Addr} {c : Nat} {l : List Int} (h : St w (wrF bw a) (wr1 T ex bw a c l :: wr2 a c l :: R) w') : Step (wrA T ex bw a c l) (wrA T ex bw a c l) w w' := wr_end h

theorem wr_hold {T : Nat} {ex : List Value} {w0 w : World} {F : Nat → Prop} {R : List Asrt} {bw : Nat} {a : Option Addr} {c : Nat} {l : List Int} (h : St w0 F (wr1 T ex bw a c l :: wr2 a c l :: R) w) : wrP T ex bw a c l w :=
  (wr_shut h).holds _ (List.Mem.head _)
theorem wr_did {T : Nat} {ex : List Value} {w0 w w' : World} {F : Nat → Prop} {R : List Asrt} {bw : Nat} {a a' : Option Addr} {c c' : Nat} {l l' : List Int} (h : St w0 F (wr1 T ex bw a c l :: wr2 a c l :: R) w) (st : Step (wrA T ex bw a c l) (wrA T ex bw a' c' l') w w') :
    St w0 F (wr1 T ex bw a' c' l' :: wr2 a' c' l' :: R) w' := wr_open ((wr_shut h).did (Sel.head _ _ _) rfl st (wrA_dep _ _ _ _))
theorem wr_start_rd {T : Nat} {ex : List Value} {w : World} {bw : Nat} {a b : Option Addr} {c : Nat} {l : List Int} {xs : List Value} (h : wrP T ex bw a c l w) (hb : Rd w b xs) (hd : ∀ k, rdFoot b xs k → ¬ wrF bw a k) : St w (wrF bw a) [wr1 T ex bw a c l, wr2 a c l, rdA b xs] w :=
  wr_open ((St.one (a := wrA T ex bw a c l) h (wr_live h) (wrA_dep _ _ _ _)).addRd hb hd |>.swap)
theorem wr_new {T : Nat} {ex : List Value} {w0 w : World} {F : Nat → Prop} {R : List Asrt} {bw : Nat} (h : St w0 F (.own bw (.cells (.slice none 0 0 :: ex).toArray T (0, 0)) :: R) w) : St w0 F (wr1 T ex bw none 0 [] :: wr2 none 0 [] :: R) w := by
  have h2 : St w0 F (wr2 none 0 [] :: .own bw (.cells (.slice none 0 0 :: ex).toArray T (0, 0)) :: R) w :=
    h.push (Grew.refl w) (World.ownsRow_nil w 0 5 1) (fun k hk => by simp [wr2, osl, Asrt.foot, Value.ownBlock] at hk) (osl.dep _ _ _ _ _)
  exact h2.swap

theorem c88 (bw : Nat) (v : Value) (w : World) (h : w.heap[bw]? = some (.cells [v, .bool true].toArray 139 (0, 0))) : CallsTo Try.prog 107 [.pointer (some ⟨bw, 0, none⟩)] w fun u w' => u = .bool false ∧ Grew w w' := by
  refine go_in (n := 12) (St.rd1 (a := some ⟨bw, 0, none⟩) (xs := [v, .bool true]) (fun j u hj => ⟨_, rfl, by rw [addr_add, cell_own h]; simpa using hj⟩)) Try.func107 rfl rfl ?_
  repeat'(first|refine kv' ?_|apply jJ|refine jE' ?_|refine jp' ?_|(apply jc;kernel_rfl)|refine kg' ?_|refine kG' ?_|refine kB' fun _=>?_|refine kA' fun _=>?_|refine kK' fun _=>?_|refine kU' ?_|(apply LR.ev; (· apply Ev.load_rd; (· exact rfl); (· repeat (first | exact mH _ _ | apply mT)); (· exact rfl)); (· exact rfl))|((first|refine kR' ?_ ?_|refine kQ' ?_ ?_);all_goals(intro hc;try simp only[hcs]at hc;try(exfalso;first|contradiction|omega))))
  all_goals (
    (apply ret1; (· exact rfl); intro w' hS)
    exact ⟨rfl, hS.toKeep⟩)
end Go.Proofs.Ytphcnaafhcfakaa

namespace Go.Proofs.Ytphcnaafhcfakaa
open Go.Hb
attribute [local irreducible] LR CW At Ev thn blk finK noG again CallsTo
set_option maxRecDepth 100000

def encF : Nat → Nat → List Int
  | 0, x => [(x : Int)]
  | k + 1, x => if x < 128 then [(x : Int)] else ((x % 128 + 128 : Nat) : Int) :: encF k (x / 128)
def enc (x : Nat) : List Int := encF 8 x
def putE (x : Int) : Int := if 0 ≤ x ∧ x ≤ 9007199254740991 then 0 else 9
def putL (x : Int) : List Int := if 0 ≤ x ∧ x ≤ 9007199254740991 then enc x.toNat else []
theorem encF_len : ∀ k x, (encF k x).length ≤ k + 1
  | 0, x => by simp [encF]
  | k + 1, x => by
    unfold encF; split
    · simp
    · have := encF_len k (x / 128); simp; omega
theorem encF_small (k x : Nat) (h : x < 128) : encF k x = [(x : Int)] := by cases k <;> simp [encF, h]

theorem or_more : ∀ a : Nat, a < 256 → orI .u8 (a : Int) 128 = ((a % 128 + 128 : Nat) : Int) := by decide +kernel
theorem wrap_u8 (x : Nat) : IntKind.u8.wrap (x : Int) = ((x % 256 : Nat) : Int) := by
  simp [IntKind.wrap, IntKind.signed, IntKind.bits]
theorem wrap_u64 {x : Int} (h : 0 ≤ x) (h2 : x < 18446744073709551616) : IntKind.u64.wrap x = x := by
  simp [IntKind.wrap, IntKind.signed, IntKind.bits]; omega
theorem shr7 (x : Nat) : (x : Int).fdiv (2 ^ (min (7 : Int).toNat IntKind.u64.bits)) = ((x / 128 : Nat) : Int) := by
  have : (2 : Int) ^ (min (7 : Int).toNat IntKind.u64.bits) = 128 := by decide
  rw [this, Int.fdiv_eq_ediv_of_nonneg _ (by omega)]; omega

set_option maxHeartbeats 1000000 in
theorem c87 (bw : Nat) (a : Option Addr) (c : Nat) (l : List Int) (x : Int) (w : World) (h : wrP 139 [.bool true] bw a c l w) (hm : l.length ≤ 1099511627776) :
    CallsTo Try.prog 106 [.pointer (some ⟨bw, 0, none⟩), .int .i64 x] w fun v w' => ∃ a' c', v = .int .i64 (putE x) ∧ Step (wrA 139 [.bool true] bw a c l) (wrA 139 [.bool true] bw a' c' (l ++ putL x)) w w' := by
  refine go_in (n := 45) (wr_start h) Try.func106 rfl rfl ?_
  by_cases hx : 0 ≤ x ∧ x ≤ 9007199254740991
  · repeat'(first|refine kv' ?_|apply jJ|refine jE' ?_|refine jp' ?_|(apply jc;kernel_rfl)|refine kg' ?_|refine kG' ?_|refine kB' fun _=>?_|refine kA' fun _=>?_|refine kK' fun _=>?_|refine kU' ?_|(apply LR.qcall; (· exact rfl); (· intro w1 h1; exact CallsTo.q (c88 _ _ w1 (h1.own_at (List.Mem.head _))) h1))|((first|refine kR' ?_ ?_|refine kQ' ?_ ?_);all_goals(intro hc;try simp only[hcs]at hc;try(exfalso;first|contradiction|omega))))
    apply CW.loop [4, 5, 18, 19, 20, 21, 22, 23, 24, 25, 26, 27, 28, 29, 30, 31, 32, 33, 34, 35, 36, 37, 38, 39, 40, 41, 42, 43, 44] (fun s : Nat × Nat × List Int × Option Addr × Nat => l ++ enc x.toNat = s.2.2.1 ++ encF s.1 s.2.1 ∧ s.2.1 < 128 ^ (s.1 + 1) ∧ s.1 ≤ 8)
      (fun s => [(5, Value.int .u64 (s.2.1 : Int))]) (fun s => St w (wrF bw a) [wr1 139 [.bool true] bw s.2.2.2.1 s.2.2.2.2 s.2.2.1, wr2 s.2.2.2.1 s.2.2.2.2 s.2.2.1]) (fun s => s.1)
    · refine fun w' hw' => ⟨(8, x.toNat, l, a, c), ⟨rfl, ?_, by simp⟩, ⟨?_, trivial⟩, hw'⟩
      · show x.toNat < 128 ^ 9
        have : (128 : Nat) ^ 9 = 9223372036854775808 := by decide
        omega
      · show Value.int .u64 (IntKind.u64.wrap x) = Value.int .u64 ((x.toNat : Nat) : Int)
        rw [wrap_u64 (by omega) (by omega), Int.toNat_of_nonneg (by omega)]
    rintro ⟨k, y, l', a', c'⟩ g ⟨he, hy, hk⟩
    simp only at he hy hk ⊢
    have hlen : l'.length ≤ l.length + 9 := by
      have h1 := congrArg List.length he
      simp only [List.length_append] at h1
      have h2 := encF_len 8 x.toNat
      unfold enc at h1
      omega
    by_cases hs : y < 128
    · repeat'(first|refine kv' ?_|apply jJ|refine jE' ?_|refine jp' ?_|(apply jc;kernel_rfl)|refine kg' ?_|refine kG' ?_|refine kB' fun _=>?_|refine kA' fun _=>?_|refine kK' fun _=>?_|refine kU' ?_|(refine LR.append rfl rfl (fun a' c' => Sel.tail _ (Sel.tail _ (Sel.head _ _ _))) (fun w' hw' => hw'.rd_of_blk (List.Mem.head _)) (by simp) rfl rfl (by omega) (by unfold maxLen; omega) rfl ?_; intro a2 c2)|((first|refine kR' ?_ ?_|refine kQ' ?_ ?_);all_goals(intro hc;try simp only[hcs]at hc;try(exfalso;first|contradiction|omega))))
      (apply ret1; (· exact rfl); intro w' hS)
      have hp : l ++ putL x = l' ++ [(y : Int)] := by unfold putL; rw [if_pos hx, he, encF_small _ _ hs]
      refine ⟨a2, c2, by unfold putE; rw [if_pos hx]; rfl, ?_⟩
      rw [hp]
      refine wr_end (R := []) (hS.tail1.cast ?_)
      simp [wr1, wr2, splice, wrap_u8, Nat.mod_eq_of_lt (show y < 256 by omega), bv]
    · repeat'(first|refine kv' ?_|apply jJ|refine jE' ?_|refine jp' ?_|(apply jc;kernel_rfl)|refine kg' ?_|refine kG' ?_|refine kB' fun _=>?_|refine kA' fun _=>?_|refine kK' fun _=>?_|refine kU' ?_|(refine LR.append rfl rfl (fun a' c' => Sel.tail _ (Sel.tail _ (Sel.head _ _ _))) (fun w' hw' => hw'.rd_of_blk (List.Mem.head _)) (by simp) rfl rfl (by omega) (by unfold maxLen; omega) rfl ?_; intro a2 c2)|((first|refine kR' ?_ ?_|refine kQ' ?_ ?_);all_goals(intro hc;try simp only[hcs]at hc;try(exfalso;first|contradiction|omega))))
      obtain ⟨k', rfl⟩ : ∃ k', k = k' + 1 := by
        cases k with
        | zero => simp at hy; omega
        | succ k' => exact ⟨k', rfl⟩
      apply At.again (k', y / 128, l' ++ [((y % 128 + 128 : Nat) : Int)], a2, c2)
      · refine ⟨?_, ?_, by show k' ≤ 8; omega⟩
        · show l ++ enc x.toNat = (l' ++ [_]) ++ encF k' (y / 128)
          rw [he, encF, if_neg hs, List.append_assoc]; rfl
        · show y / 128 < 128 ^ (k' + 1)
          rw [Nat.pow_succ] at hy; omega
      · (repeat (first | exact Out.refl _ _ | exact Out.mix | (apply Out.upd; (· exact rfl)) | (apply Out.updL; (· exact rfl)) | (apply Out.mixs; (· exact rfl))))
      · refine ⟨?_, trivial⟩
        show Value.int .u64 ((y : Int).fdiv (2 ^ (min (7 : Int).toNat IntKind.u64.bits))) = Value.int .u64 ((y / 128 : Nat) : Int)
        rw [shr7]
      · intro w' hw'
        refine hw'.tail1.cast ?_
        have ho : orI .u8 ((y % 256 : Nat) : Int) 128 = ((y % 128 + 128 : Nat) : Int) := by rw [or_more _ (by omega)]; congr 2; omega
        simp only [wr1, wr2, splice, wrap_u8, ho, bv]
        simp
      · show k' < k' + 1; omega
  · repeat'(first|refine kv' ?_|apply jJ|refine jE' ?_|refine jp' ?_|(apply jc;kernel_rfl)|refine kg' ?_|refine kG' ?_|refine kB' fun _=>?_|refine kA' fun _=>?_|refine kK' fun _=>?_|refine kU' ?_|(apply LR.qcall; (· exact rfl); (· intro w1 h1; exact CallsTo.q (c88 _ _ w1 (h1.own_at (List.Mem.head _))) h1))|((first|refine kR' ?_ ?_|refine kQ' ?_ ?_);all_goals(intro hc;try simp only[hcs]at hc;try(exfalso;first|contradiction|omega))))
    all_goals (
      (apply ret1; (· exact rfl); intro w' hS)
      have hp : putL x = [] := by unfold putL; rw [if_neg hx]
      have hq : putE x = 9 := by unfold putE; rw [if_neg hx]
      refine ⟨a, c, by rw [hq]; rfl, ?_⟩
      rw [hp, List.append_nil]
      exact wr_same hS)
theorem c78 (bw : Nat) (a : Option Addr) (c : Nat) (l : List Int) (x : Int) (w : World) (h : wrP 148 [] bw a c l w) (hm : l.length ≤ 1099511627776) :
    CallsTo Try.prog 100 [.pointer (some ⟨bw, 0, none⟩), .int .i64 x] w fun v w' => ∃ a' c', v = .int .i64 (putE x) ∧ Step (wrA 148 [] bw a c l) (wrA 148 [] bw a' c' (l ++ putL x)) w w' := by
  refine go_in (n := 39) (wr_start h) Try.func100 rfl rfl ?_
  by_cases hx : 0 ≤ x ∧ x ≤ 9007199254740991
  · repeat'(first|refine kv' ?_|apply jJ|refine jE' ?_|refine jp' ?_|(apply jc;kernel_rfl)|refine kg' ?_|refine kG' ?_|refine kB' fun _=>?_|refine kA' fun _=>?_|refine kK' fun _=>?_|refine kU' ?_|((first|refine kR' ?_ ?_|refine kQ' ?_ ?_);all_goals(intro hc;try simp only[hcs]at hc;try(exfalso;first|contradiction|omega))))
    apply CW.loop [1, 11, 12, 13, 14, 15, 16, 17, 18, 19, 20, 21, 22, 23, 24, 25, 26, 27] (fun s : Nat × Nat × List Int × Option Addr × Nat => l ++ enc x.toNat = s.2.2.1 ++ encF s.1 s.2.1 ∧ s.2.1 < 128 ^ (s.1 + 1) ∧ s.1 ≤ 8 ∧ s.2.1 ≤ 9007199254740991)
      (fun s => [(1, Value.int .i64 (s.2.1 : Int))]) (fun s => St w (wrF bw a) [wr1 148 [] bw s.2.2.2.1 s.2.2.2.2 s.2.2.1, wr2 s.2.2.2.1 s.2.2.2.2 s.2.2.1]) (fun s => s.1)
    · refine fun w' hw' => ⟨(8, x.toNat, l, a, c), ⟨rfl, ?_, by simp, by show x.toNat ≤ _; omega⟩, ⟨?_, trivial⟩, hw'⟩
      · show x.toNat < 128 ^ 9
        have : (128 : Nat) ^ 9 = 9223372036854775808 := by decide
        omega
      · show Value.int .i64 x = Value.int .i64 ((x.toNat : Nat) : Int)
        rw [Int.toNat_of_nonneg (by omega)]
    rintro ⟨k, y, l', a', c'⟩ g ⟨he, hy, hk, hb⟩
    simp only at he hy hk hb ⊢
    have hlen : l'.length ≤ l.length + 9 := by
      have h1 := congrArg List.length he
      simp only [List.length_append] at h1
      have h2 := encF_len 8 x.toNat
      unfold enc at h1
      omega
    have hr0 : (0 : Int) ≤ (y : Int).tmod 128 ∧ (y : Int).tmod 128 < 128 := by
      rw [Int.tmod_eq_emod_of_nonneg (by omega)]; omega
    by_cases hs : y < 128
    · repeat'(first|refine kv' ?_|apply jJ|refine jE' ?_|refine jp' ?_|(apply jc;kernel_rfl)|refine kg' ?_|refine kG' ?_|refine kB' fun _=>?_|refine kA' fun _=>?_|refine kK' fun _=>?_|refine kU' ?_|(refine LR.append rfl rfl (fun a' c' => Sel.tail _ (Sel.tail _ (Sel.head _ _ _))) (fun w' hw' => hw'.rd_of_blk (List.Mem.head _)) (by simp) rfl rfl (by omega) (by unfold maxLen; omega) rfl ?_; intro a2 c2)|((first|refine kR' ?_ ?_|refine kQ' ?_ ?_);all_goals(intro hc;try simp only[hcs]at hc;try(exfalso;first|contradiction|omega))))
      (apply ret1; (· exact rfl); intro w' hS)
      have hp : l ++ putL x = l' ++ [(y : Int)] := by unfold putL; rw [if_pos hx, he, encF_small _ _ hs]
      refine ⟨a2, c2, by unfold putE; rw [if_pos hx]; rfl, ?_⟩
      rw [hp]
      refine wr_end (R := []) (hS.tail1.cast ?_)
      simp [wr1, wr2, splice, wrap_u8, Nat.mod_eq_of_lt (show y < 256 by omega), bv]
    · repeat'(first|refine kv' ?_|apply jJ|refine jE' ?_|refine jp' ?_|(apply jc;kernel_rfl)|refine kg' ?_|refine kG' ?_|refine kB' fun _=>?_|refine kA' fun _=>?_|refine kK' fun _=>?_|refine kU' ?_|(apply addX;(iterate 2 exact rfl);(iterate 2(first|omega|(dsimp only;omega)));exact rfl)|(apply LR.ev; (· apply Ev.rem; (· exact rfl); (· exact rfl); (· decide)); (· exact rfl))|(apply LR.ev; (· apply Ev.quo; (· exact rfl); (· exact rfl); (· decide)); (· exact rfl))|(refine LR.append rfl rfl (fun a' c' => Sel.tail _ (Sel.tail _ (Sel.head _ _ _))) (fun w' hw' => hw'.rd_of_blk (List.Mem.head _)) (by simp) rfl rfl (by omega) (by unfold maxLen; omega) rfl ?_; intro a2 c2)|((first|refine kR' ?_ ?_|refine kQ' ?_ ?_);all_goals(intro hc;try simp only[hcs]at hc;try(exfalso;first|contradiction|omega))))
      obtain ⟨k', rfl⟩ : ∃ k', k = k' + 1 := by
        cases k with
        | zero => simp at hy; omega
        | succ k' => exact ⟨k', rfl⟩
      apply At.again (k', y / 128, l' ++ [((y % 128 + 128 : Nat) : Int)], a2, c2)
      · refine ⟨?_, ?_, by show k' ≤ 8; omega, by show y / 128 ≤ _; omega⟩
        · show l ++ enc x.toNat = (l' ++ [_]) ++ encF k' (y / 128)
          rw [he, encF, if_neg hs, List.append_assoc]; rfl
        · show y / 128 < 128 ^ (k' + 1)
          rw [Nat.pow_succ] at hy; omega
      · (repeat (first | exact Out.refl _ _ | exact Out.mix | (apply Out.upd; (· exact rfl)) | (apply Out.updL; (· exact rfl)) | (apply Out.mixs; (· exact rfl))))
      · refine ⟨?_, trivial⟩
        show Value.int .i64 (IntKind.i64.wrap ((y : Int).tdiv 128)) = Value.int .i64 ((y / 128 : Nat) : Int)
        rw [Int.tdiv_eq_ediv_of_nonneg (by omega), wrap_i64 (by omega) (by omega)]
        rfl
      · intro w' hw'
        refine hw'.tail1.cast ?_
        have ho : IntKind.u8.wrap ((y : Int).tmod 128 + 128) = ((y % 128 + 128 : Nat) : Int) := by
          rw [Int.tmod_eq_emod_of_nonneg (by omega)]
          have : ((y : Int) % 128 + 128) = ((y % 128 + 128 : Nat) : Int) := by omega
          rw [this, wrap_u8]; congr 1; omega
        simp only [wr1, wr2, splice, ho, bv]
        simp
      · show k' < k' + 1; omega
  · repeat'(first|refine kv' ?_|apply jJ|refine jE' ?_|refine jp' ?_|(apply jc;kernel_rfl)|refine kg' ?_|refine kG' ?_|refine kB' fun _=>?_|refine kA' fun _=>?_|refine kK' fun _=>?_|refine kU' ?_|((first|refine kR' ?_ ?_|refine kQ' ?_ ?_);all_goals(intro hc;try simp only[hcs]at hc;try(exfalso;first|contradiction|omega))))
    all_goals (
      (apply ret1; (· exact rfl); intro w' hS)
      have hp : putL x = [] := by unfold putL; rw [if_neg hx]
      have hq : putE x = 9 := by unfold putE; rw [if_neg hx]
      refine ⟨a, c, by rw [hq]; rfl, ?_⟩
      rw [hp, List.append_nil]
      exact wr_same hS)
end Go.Proofs.Ytphcnaafhcfakaa

namespace Go.Proofs.Ytphcnaafhcfakaa
open Go.Hb
attribute [local irreducible] LR CW At Ev thn blk finK noG again CallsTo
set_option maxRecDepth 100000

theorem c53 (w : World) : CallsTo Try.prog 85 [] w fun v w' => ∃ bw, v = .pointer (some ⟨bw, 0, none⟩) ∧ New1 (wrA 139 [.bool true] bw none 0 []) w w' := by
  refine go_in (n := 3) (St.refl _ NoF) Try.func85 rfl rfl ?_
  repeat'(first|refine kv' ?_|apply jJ|refine jE' ?_|refine jp' ?_|(apply jc;kernel_rfl)|refine kg' ?_|refine kG' ?_|refine kB' fun _=>?_|refine kA' fun _=>?_|refine kK' fun _=>?_|refine kU' ?_|((first|refine kR' ?_ ?_|refine kQ' ?_ ?_);all_goals(intro hc;try simp only[hcs]at hc;try(exfalso;first|contradiction|omega))))
  (apply ret1; (· exact rfl); intro w' hS)
  exact ⟨_, rfl, (wr_shut (wr_new hS)).new1 rfl⟩

theorem c77 (w : World) : CallsTo Try.prog 99 [] w fun v w' => ∃ bw, v = .pointer (some ⟨bw, 0, none⟩) ∧ New1 (wrA 148 [] bw none 0 []) w w' := by
  refine go_in (n := 3) (St.refl _ NoF) Try.func99 rfl rfl ?_
  repeat'(first|refine kv' ?_|apply jJ|refine jE' ?_|refine jp' ?_|(apply jc;kernel_rfl)|refine kg' ?_|refine kG' ?_|refine kB' fun _=>?_|refine kA' fun _=>?_|refine kK' fun _=>?_|refine kU' ?_|((first|refine kR' ?_ ?_|refine kQ' ?_ ?_);all_goals(intro hc;try simp only[hcs]at hc;try(exfalso;first|contradiction|omega))))
  (apply ret1; (· exact rfl); intro w' hS)
  exact ⟨_, rfl, (wr_shut (wr_new hS)).new1 rfl⟩

theorem wr_rd {T : Nat} {ex : List Value} {w : World} {bw : Nat} {a : Option Addr} {c : Nat} {l : List Int} (h : wrP T ex bw a c l w) : St w NoF [rdA (some ⟨bw, 0, none⟩) (.slice a l.length c :: ex), rdA a (bv l)] w :=
  St.rd2 (fun j u hj => ⟨_, rfl, by rw [addr_add, cell_own h.1]; simpa using hj⟩) (ownsRow_rd h.2.1)

theorem c56 (bw : Nat) (a : Option Addr) (c : Nat) (l : List Int) (w : World) (h : wrP 139 [.bool true] bw a c l w) (hm : l.length ≤ 1099511627776) :
    CallsTo Try.prog 87 [.pointer (some ⟨bw, 0, none⟩)] w fun v w' => NewB w w' v l := by
  refine go_in (n := 10) (wr_rd h) Try.func87 rfl rfl ?_
  repeat'(first|refine kv' ?_|apply jJ|refine jE' ?_|refine jp' ?_|(apply jc;kernel_rfl)|refine kg' ?_|refine kG' ?_|refine kB' fun _=>?_|refine kA' fun _=>?_|refine kK' fun _=>?_|refine kU' ?_|(apply LR.ev; (· apply Ev.load_rd; (· exact rfl); (· repeat (first | exact mH _ _ | apply mT)); (· exact rfl)); (· exact rfl))|(apply LR.qcall; (· exact rfl); (· intro w1 h1; exact CallsTo.q (c88 bw (.slice a l.length c) w1 (by have := (h1.toKeep.keep bw (wr_live h bw (.inl rfl)) (fun x => x)); rw [this]; exact h.1)) h1))|((first|refine kR' ?_ ?_|refine kQ' ?_ ?_);all_goals(intro hc;try simp only[hcs]at hc;try(exfalso;first|contradiction|omega))))
  apply LR.call
  · exact rfl
  intro w1 h1
  refine (c86 a c l w1 (h1.rd_of (List.Mem.tail _ (List.Mem.head _))) (fun hx => (ownsRow_some h.2.1 hx).2) (by omega)).mono ?_
  rintro v w2 ⟨a2, c2, rfl, hn⟩
  refine LR.back (h1.newSl hn) ?_
  repeat'(first|refine kv' ?_|apply jJ|refine jE' ?_|refine jp' ?_|(apply jc;kernel_rfl)|refine kg' ?_|refine kG' ?_|refine kB' fun _=>?_|refine kA' fun _=>?_|refine kK' fun _=>?_|refine kU' ?_|((first|refine kR' ?_ ?_|refine kQ' ?_ ?_);all_goals(intro hc;try simp only[hcs]at hc;try(exfalso;first|contradiction|omega))))
  (apply ret1; (· exact rfl); intro w' hS)
  exact ⟨_, _, rfl, hS.toNew (List.Mem.head _)⟩

theorem c80 (bw : Nat) (a : Option Addr) (c : Nat) (l : List Int) (w : World) (h : wrP 148 [] bw a c l w) (hm : l.length ≤ 1099511627776) :
    CallsTo Try.prog 102 [.pointer (some ⟨bw, 0, none⟩)] w fun v w' => NewB w w' v l := by
  refine go_in (n := 10) (wr_rd h) Try.func102 rfl rfl ?_
  repeat'(first|refine kv' ?_|apply jJ|refine jE' ?_|refine jp' ?_|(apply jc;kernel_rfl)|refine kg' ?_|refine kG' ?_|refine kB' fun _=>?_|refine kA' fun _=>?_|refine kK' fun _=>?_|refine kU' ?_|(apply LR.ev; (· apply Ev.load_rd; (· exact rfl); (· repeat (first | exact mH _ _ | apply mT)); (· exact rfl)); (· exact rfl))|(refine LR.append_nil (news := bv l) rfl rfl (fun w' hw' => hw'.rd_of (List.Mem.tail _ (List.Mem.head _))) (ownsRow_some h.2.1) (by simp) (bv_one l) (by omega) (by unfold maxLen; omega) rfl ?_; intro a' c')|((first|refine kR' ?_ ?_|refine kQ' ?_ ?_);all_goals(intro hc;try simp only[hcs]at hc;try(exfalso;first|contradiction|omega))))
  (apply ret1; (· exact rfl); intro w' hS)
  exact ⟨_, _, rfl, hS.toNew (List.Mem.head _)⟩

def encs (xs : List Int) : List Int := xs.flatMap fun x => enc x.toNat
theorem encs_len (xs : List Int) : (encs xs).length ≤ 9 * xs.length := by
  induction xs with
  | nil => simp [encs]
  | cons x r ih =>
    have : (enc x.toNat).length ≤ 9 := encF_len 8 _
    simp only [encs, List.flatMap_cons, List.length_append, List.length_cons] at ih ⊢; omega
theorem encs_take {xs : List Int} {i : Nat} (h : i < xs.length) : encs (xs.take (i + 1)) = encs (xs.take i) ++ enc (xs[i]).toNat := by
  rw [List.take_succ_eq_append_getElem h]; unfold encs; rw [List.flatMap_append]; rw [List.flatMap_cons, List.flatMap_nil, List.append_nil]
def okN (x : Int) : Prop := 0 ≤ x ∧ x ≤ 9007199254740991
theorem putE_ok {x : Int} (h : okN x) : putE x = 0 := by unfold putE; rw [if_pos (show 0 ≤ x ∧ x ≤ 9007199254740991 from h)]
theorem putL_ok {x : Int} (h : okN x) : putL x = enc x.toNat := by unfold putL; rw [if_pos (show 0 ≤ x ∧ x ≤ 9007199254740991 from h)]

theorem iv_at {l : List Int} {q i : Nat} (hq : q = i) (h : i < l.length) : (iv l)[q]? = some (.int .i64 (l[i]'h)) := by subst hq; exact iv_get h

theorem c54 (bw : Nat) (a b : Option Addr) (c cb : Nat) (l xs : List Int) (w : World) (h : wrP 139 [.bool true] bw a c l w) (hb : Rd w b (iv xs)) (hd : ∀ k, rdFoot b (iv xs) k → ¬ wrF bw a k) (hm : l.length ≤ 1099511626776) (hm2 : xs.length ≤ 100) (hok : ∀ x ∈ xs, okN x) :
    CallsTo Try.prog 86 [.pointer (some ⟨bw, 0, none⟩), .slice b xs.length cb] w fun v w' => ∃ a' c', v = .int .i64 0 ∧ Step (wrA 139 [.bool true] bw a c l) (wrA 139 [.bool true] bw a' c' (l ++ encs xs)) w w' := by
  refine go_in (n := 21) (wr_start_rd h hb hd) Try.func86 rfl rfl ?_
  repeat'(first|refine kv' ?_|apply jJ|refine jE' ?_|refine jp' ?_|(apply jc;kernel_rfl)|refine kg' ?_|refine kG' ?_|refine kB' fun _=>?_|refine kA' fun _=>?_|refine kK' fun _=>?_|refine kU' ?_|((first|refine kR' ?_ ?_|refine kQ' ?_ ?_);all_goals(intro hc;try simp only[hcs]at hc;try(exfalso;first|contradiction|omega))))
  apply CW.loop [4, 6, 7, 10, 11, 12, 13, 14, 15, 16, 17, 18, 19, 20] (fun s : Nat × Option Addr × Nat => s.1 ≤ xs.length) (fun s => [(10, Value.int .i64 (s.1 : Int))])
    (fun s => St w (wrF bw a) [wr1 139 [.bool true] bw s.2.1 s.2.2 (l ++ encs (xs.take s.1)), wr2 s.2.1 s.2.2 (l ++ encs (xs.take s.1)), rdA b (iv xs)]) (fun s => xs.length - s.1)
  · exact fun w' hw' => ⟨(0, a, c), by simp, ⟨rfl, trivial⟩, hw'.cast (by simp [encs])⟩
  rintro ⟨i, a1, c1⟩ g hi
  simp only at hi ⊢
  have hlen := encs_len (xs.take i)
  have hlen2 : (xs.take i).length ≤ 100 := by simp; omega
  by_cases hlt : i < xs.length
  · obtain ⟨bb, ob, rfl⟩ := hb.form (fun e => by have := congrArg List.length e; simp at this; subst this; simp at hlt)
    have hx := hok _ (List.getElem_mem hlt)
    have e1 := putE_ok hx
    have e2 := putL_ok hx
    repeat'(first|refine kv' ?_|apply jJ|refine jE' ?_|refine jp' ?_|(apply jc;kernel_rfl)|refine kg' ?_|refine kG' ?_|refine kB' fun _=>?_|refine kA' fun _=>?_|refine kK' fun _=>?_|refine kU' ?_|(apply idxX;(iterate 2 exact rfl);(iterate 2(first|omega|(dsimp only;omega)));exact rfl)|(apply LR.ev; (· apply Ev.load_rd; (· exact rfl); (· repeat (first | exact mH _ _ | apply mT)); (· exact iv_at (i := i) (by simp) (by omega))); (· exact rfl))|(apply LR.call; (· exact rfl); (intro w1 h1; refine (c87 _ _ _ _ _ w1 (wr_hold h1) (by simp; omega)).mono ?_; rintro v w2 ⟨a2, c2, rfl, st⟩; refine LR.back (wr_did h1 st) ?_; clear st h1; rw [e1, e2]))|(apply addX;(iterate 2 exact rfl);(iterate 2(first|omega|(dsimp only;omega)));exact rfl)|((first|refine kR' ?_ ?_|refine kQ' ?_ ?_);all_goals(intro hc;try simp only[hcs]at hc;try(exfalso;first|contradiction|omega))))
    apply At.again (i + 1, a2, c2) (by show i + 1 ≤ _; omega)
    · (repeat (first | exact Out.refl _ _ | exact Out.mix | (apply Out.upd; (· exact rfl)) | (apply Out.updL; (· exact rfl)) | (apply Out.mixs; (· exact rfl))))
    · exact ⟨rfl, trivial⟩
    · intro w' hw'
      exact hw'.cast (by simp only [encs_take hlt, List.append_assoc])
    · show xs.length - (i + 1) < xs.length - i; omega
  · repeat'(first|refine kv' ?_|apply jJ|refine jE' ?_|refine jp' ?_|(apply jc;kernel_rfl)|refine kg' ?_|refine kG' ?_|refine kB' fun _=>?_|refine kA' fun _=>?_|refine kK' fun _=>?_|refine kU' ?_|((first|refine kR' ?_ ?_|refine kQ' ?_ ?_);all_goals(intro hc;try simp only[hcs]at hc;try(exfalso;first|contradiction|omega))))
    (apply ret1; (· exact rfl); intro w' hS)
    have e : xs.take i = xs := List.take_of_length_le (by omega)
    rw [e] at hS
    exact ⟨a1, c1, rfl, wr_end hS⟩
end Go.Proofs.Ytphcnaafhcfakaa

namespace Go.Proofs.Ytphcnaafhcfakaa
open Go.Hb
attribute [local irreducible] LR CW At Ev thn blk finK noG again CallsTo
set_option maxRecDepth 100000

def decF : Nat → Nat → Nat → List Int → Nat × Nat × Int
  | 0, _, _, _ => (0, 0, 4)
  | _ + 1, _, _, [] => (0, 0, 3)
  | k + 1, i, acc, x :: r =>
    if x < 128 then (if (0 < i ∧ x = 0) ∨ 9007199254740991 < acc + x.toNat % 128 * 128 ^ i then (0, 0, 4) else (acc + x.toNat % 128 * 128 ^ i, i + 1, 0))
    else decF k (i + 1) (acc + x.toNat % 128 * 128 ^ i) r
def dec (l : List Int) : Nat × Nat × Int := decF 8 0 0 l
def Byt (l : List Int) : Prop := ∀ b ∈ l, 0 ≤ b ∧ b < 256
def tup3 (r : Nat × Nat × Int) : Value := .tuple [.int .i64 (r.1 : Int), .int .i64 (r.2.1 : Int), .int .i64 r.2.2].toArray

theorem decF_bound : ∀ k i acc l, (decF k i acc l).2.1 ≤ i + k ∧ ((decF k i acc l).2.2 = 0 → (decF k i acc l).2.1 ≤ i + l.length ∧ (decF k i acc l).1 ≤ 9007199254740991)
  | 0, i, acc, l => by simp [decF]
  | k + 1, i, acc, [] => by simp [decF]
  | k + 1, i, acc, x :: r => by
    unfold decF
    split
    · split
      · simp
      · rename_i h; simp only [not_or] at h; simp; omega
    · have := decF_bound k (i + 1) (acc + x.toNat % 128 * 128 ^ i) r
      simp only [List.length_cons]; omega

def rrP (T : Nat) (ex : List Value) (br : Nat) (a : Option Addr) (c : Nat) (l : List Int) : World → Prop := fun w =>
  w.heap[br]? = some (.cells (.slice a l.length c :: ex).toArray T (0, 0)) ∧ Rd w a (bv l) ∧ l.length ≤ c ∧ (a = none → c = 0) ∧ (∀ k, rdFoot a (bv l) k → k ≠ br)
def rrF (br : Nat) (a : Option Addr) (l : List Int) : Nat → Prop := fun k => k = br ∨ rdFoot a (bv l) k
def rrA (T : Nat) (ex : List Value) (br : Nat) (a : Option Addr) (c : Nat) (l : List Int) : Asrt := .ex (rrF br a l) (rrP T ex br a c l)
def rr1 (T : Nat) (ex : List Value) (br : Nat) (a : Option Addr) (c : Nat) (l : List Int) : Asrt := .own br (.cells (.slice a l.length c :: ex).toArray T (0, 0))
def rr2 (a : Option Addr) (l : List Int) : Asrt := .ex (rdFoot a (bv l)) (fun w => Rd w a (bv l))
theorem rr2_dep (a : Option Addr) (l : List Int) : (rr2 a l).dep := Rd.dep a (bv l)
theorem rrA_dep (T : Nat) (ex : List Value) (br : Nat) (a : Option Addr) (c : Nat) (l : List Int) : (rrA T ex br a c l).dep := by
  intro w w' hk ⟨h1, h2, h3⟩
  exact ⟨by rw [hk br (.inl rfl)]; exact h1, Rd.dep a (bv l) w w' (fun k hk2 => hk k (.inr hk2)) h2, h3⟩
theorem rr_live {T : Nat} {ex : List Value} {w : World} {br : Nat} {a : Option Addr} {c : Nat} {l : List Int} (h : rrP T ex br a c l w) : ∀ k, rrF br a l k → k < w.heap.size := by
  rintro k (rfl | hk)
  · exact (Array.getElem?_eq_some_iff.1 h.1).1
  · exact h.2.1.live k hk
theorem rr_open {T : Nat} {ex : List Value} {w0 w : World} {F : Nat → Prop} {R : List Asrt} {br : Nat} {a : Option Addr} {c : Nat} {l : List Int} (h : St w0 F (rrA T ex br a c l :: R) w) : St w0 F (rr1 T ex br a c l :: rr2 a l :: R) w := by
  have hh : rrP T ex br a c l w := h.holds _ (List.Mem.head _)
  refine h.split rfl hh.1 hh.2.1 (fun k hk => .inl hk) (fun k hk => .inr hk) (fun k hk hk2 => ?_) (Asrt.dep_own _ _) (rr2_dep _ _)
  exact hh.2.2.2.2 k hk2 hk
theorem rr_shut {T : Nat} {ex : List Value} {w0 w : World} {F : Nat → Prop} {R : List Asrt} {br : Nat} {a : Option Addr} {c : Nat} {l : List Int} (h : St w0 F (rr1 T ex br a c l :: rr2 a l :: R) w) (hc : l.length ≤ c) (hz : a = none → c = 0) : St w0 F (rrA T ex br a c l :: R) w := by
  refine h.merge rfl rfl ⟨h.holds _ (List.Mem.head _), h.holds _ (List.Mem.tail _ (List.Mem.head _)), hc, hz, fun k hk hb => ?_⟩ (fun k hk => hk) (rrA_dep _ _ _ _ _ _)
  obtain ⟨d1, _⟩ := List.pairwise_cons.1 h.dis
  exact d1 (rr2 a l) (by simp) rfl k hb hk
theorem rr_start {T : Nat} {ex : List Value} {w : World} {br : Nat} {a : Option Addr} {c : Nat} {l : List Int} (h : rrP T ex br a c l w) : St w (rrF br a l) [rr1 T ex br a c l, rr2 a l] w :=
  rr_open (St.one (a := rrA T ex br a c l) h (rr_live h) (rrA_dep _ _ _ _ _ _))
theorem rr_end {T : Nat} {ex : List Value} {w w' : World} {R : List Asrt} {br : Nat} {a a' : Option Addr} {c c' : Nat} {l l' : List Int} (h : St w (rrF br a l) (rr1 T ex br a' c' l' :: rr2 a' l' :: R) w') (hc : l'.length ≤ c') (hz : a' = none → c' = 0) : Step (rrA T ex br a c l) (rrA T ex br a' c' l') w w' :=
  St.step (R := R) (rr_shut h hc hz) rfl
theorem rr_drop {w0 w : World} {F : Nat → Prop} {R : List Asrt} {x : Asrt} {a : Option Addr} {c n : Nat} {l : List Int} (h : St w0 F (x :: rr2 a l :: R) w) (hc : l.length ≤ c) : St w0 F (x :: rr2 (subA a c n 1) (l.drop n) :: R) w := by
  have hr : Rd w a (bv l) := h.holds _ (List.Mem.tail _ (List.Mem.head _))
  have hd : Rd w (subA a c n 1) (bv (l.drop n)) := by
    have := hr.drop (l := n) (sz := 1) (c := c) (fun e => by simp; omega)
    simpa using this
  have hs : Sel (x :: rr2 a l :: R) (rr2 a l) (rr2 (subA a c n 1) (l.drop n)) (x :: rr2 (subA a c n 1) (l.drop n) :: R) := Sel.tail _ (Sel.head _ _ _)
  refine h.turn hs rfl (St.refl w _) hd (fun k hk => .inl ?_) (rr2_dep _ _)
  obtain ⟨hne, ad, ha, rfl⟩ := hk
  refine ⟨fun e => hne (by rw [bv_drop, e]; simp), ?_⟩
  unfold subA at ha
  split at ha
  · exact ⟨ad, ha, rfl⟩
  · cases a with
    | none => cases ha
    | some a0 => simp only [Option.map_some, Option.some.injEq] at ha; subst ha; exact ⟨a0, rfl, addr_add_block _ _⟩
theorem subA_none {a : Option Addr} {c n : Nat} (hz : a = none → c = 0) : subA a c n 1 = none → c - n = 0 := by
  unfold subA
  intro h
  split at h
  · omega
  · cases a with
    | none => rw [hz rfl]; omega
    | some a0 => cases h
theorem rr_rd {T : Nat} {ex : List Value} {w : World} {br : Nat} {a : Option Addr} {c : Nat} {l : List Int} (h : rrP T ex br a c l w) : St w NoF [rdA (some ⟨br, 0, none⟩) (.slice a l.length c :: ex), rdA a (bv l)] w :=
  St.rd2 (fun j u hj => ⟨_, rfl, by rw [addr_add, cell_own h.1]; simpa using hj⟩) h.2.1

theorem andNot128 : ∀ a : Nat, a < 256 → andNotI .u8 (a : Int) 128 = ((a % 128 : Nat) : Int) := by decide +kernel
theorem or_add {a b k : Nat} (ha : a < 2 ^ k) (hs : a + b * 2 ^ k < 18446744073709551616) : orI .u64 (a : Int) ((b * 2 ^ k : Nat) : Int) = ((a + b * 2 ^ k : Nat) : Int) := by
  unfold orI
  have e1 : (BitVec.ofInt IntKind.u64.bits (a : Int)) = BitVec.ofNat 64 a := rfl
  have e2 : (BitVec.ofInt IntKind.u64.bits ((b * 2 ^ k : Nat) : Int)) = BitVec.ofNat 64 (b * 2 ^ k) := rfl
  rw [e1, e2]
  have e3 : (BitVec.ofNat 64 a ||| BitVec.ofNat 64 (b * 2 ^ k)).toNat = a + b * 2 ^ k := by
    rw [BitVec.toNat_or, BitVec.toNat_ofNat, BitVec.toNat_ofNat, Nat.mod_eq_of_lt (by omega), Nat.mod_eq_of_lt (by omega)]
    rw [Nat.or_comm, Nat.mul_comm, ← Nat.two_pow_add_eq_or_of_lt ha, Nat.add_comm]
  show IntKind.u64.wrap (((BitVec.ofNat 64 a ||| BitVec.ofNat 64 (b * 2 ^ k)).toNat : Nat) : Int) = _
  rw [e3, wrap_u64 (by omega) (by omega)]
theorem pow128 (i : Nat) : 128 ^ i = 2 ^ (7 * i) := by rw [Nat.pow_mul]
theorem pow128_le {i : Nat} (h : i ≤ 8) : 128 ^ i ≤ 72057594037927936 := by
  have : 128 ^ i ≤ 128 ^ 8 := Nat.pow_le_pow_right (by omega) h
  have e : (128 : Nat) ^ 8 = 72057594037927936 := by decide
  omega

theorem c100 (br : Nat) (a : Option Addr) (c : Nat) (l : List Int) (w : World) (h : rrP 159 [.bool true] br a c l w) (hb : Byt l) (hm : l.length ≤ 281474976710656) :
    CallsTo Try.prog 122 [.pointer (some ⟨br, 0, none⟩)] w fun v w' => v = tup3 (dec l) ∧ Grew w w' := by
  refine go_in (n := 58) (rr_rd h) Try.func122 rfl rfl ?_
  repeat'(first|refine kv' ?_|apply jJ|refine jE' ?_|refine jp' ?_|(apply jc;kernel_rfl)|refine kg' ?_|refine kG' ?_|refine kB' fun _=>?_|refine kA' fun _=>?_|refine kK' fun _=>?_|refine kU' ?_|((first|refine kR' ?_ ?_|refine kQ' ?_ ?_);all_goals(intro hc;try simp only[hcs]at hc;try(exfalso;first|contradiction|omega))))
  apply CW.loop [2, 3, 4, 5, 6, 7, 8, 9, 10, 11, 12, 13, 14, 15, 16, 17, 18, 19, 20, 21, 22, 23, 24, 25, 26, 27, 28, 29, 30, 31, 32, 33, 34, 35, 36, 37] (fun s : Nat × Nat => s.1 ≤ l.length ∧ s.1 ≤ 7 ∧ s.2 < 128 ^ s.1 ∧ dec l = decF (8 - s.1) s.1 s.2 (l.drop s.1))
    (fun s => [(5, Value.int .u64 (s.2 : Int)), (6, Value.int .i64 (s.1 : Int))]) (fun s => St w NoF [rdA (some ⟨br, 0, none⟩) [.slice a l.length c, .bool true], rdA a (bv l)]) (fun s => 8 - s.1)
  · exact fun w' hw' => ⟨(0, 0), ⟨by simp, by simp, by simp, rfl⟩, ⟨rfl, rfl, trivial⟩, hw'⟩
  rintro ⟨i, acc⟩ g ⟨hi, hi7, hacc, hd⟩
  simp only at hi hi7 hacc hd ⊢
  by_cases hlt : i < l.length
  · obtain ⟨ba, oa, rfl⟩ := h.2.1.form (fun e => by have := congrArg List.length e; simp at this; subst this; simp at hlt)
    have hne : ¬ ((i : Int) = (l.length : Int)) := by omega
    obtain ⟨hx0, hx1⟩ := hb _ (List.getElem_mem hlt)
    obtain ⟨x, hx⟩ : ∃ x : Nat, l[i] = (x : Int) := ⟨l[i].toNat, by omega⟩
    have hp := pow128_le (i := i) (by omega)
    have hab : acc < 72057594037927936 := by omega
    have hxm : x % 128 * 128 ^ i ≤ 127 * 72057594037927936 := Nat.mul_le_mul (by omega) hp
    have hval : orI .u64 (acc : Int) (IntKind.u64.wrap (IntKind.u64.wrap (andNotI .u8 l[i] 128) * 2 ^ (min (7 * (i : Int)).toNat IntKind.u64.bits))) = ((acc + x % 128 * 128 ^ i : Nat) : Int) := by
      rw [hx, andNot128 x (by omega), wrap_u64 (x := ((x % 128 : Nat) : Int)) (by omega) (by omega)]
      have e : min (7 * (i : Int)).toNat IntKind.u64.bits = 7 * i := by
        have : IntKind.u64.bits = 64 := rfl
        omega
      rw [e]
      have e2 : ((x % 128 : Nat) : Int) * 2 ^ (7 * i) = ((x % 128 * 2 ^ (7 * i) : Nat) : Int) := by simp
      rw [pow128] at hacc hxm ⊢
      rw [e2, wrap_u64 (by omega) (by omega), or_add hacc (by omega)]
    have hn : acc + x % 128 * 128 ^ i < 128 ^ (i + 1) := by
      have : x % 128 * 128 ^ i ≤ 127 * 128 ^ i := Nat.mul_le_mul_right _ (by omega)
      rw [Nat.pow_succ]; omega
    have hstep : dec l = if l[i] < 128 then (if (0 < i ∧ l[i] = 0) ∨ 9007199254740991 < acc + x % 128 * 128 ^ i then (0, 0, 4) else (acc + x % 128 * 128 ^ i, i + 1, 0)) else decF (7 - i) (i + 1) (acc + x % 128 * 128 ^ i) (l.drop (i + 1)) := by
      rw [hd, List.drop_eq_getElem_cons hlt, show 8 - i = (7 - i) + 1 by omega]
      have : l[i].toNat = x := by omega
      simp only [decF, this]
    generalize acc + x % 128 * 128 ^ i = nacc at hval hn hstep
    have hnb : nacc < 9223372036854775808 := by
      have : 128 ^ (i + 1) ≤ 72057594037927936 := pow128_le (by omega)
      omega
    repeat'(first|refine kv' ?_|apply jJ|refine jE' ?_|refine jp' ?_|(apply jc;kernel_rfl)|refine kg' ?_|refine kG' ?_|refine kB' fun _=>?_|refine kA' fun _=>?_|refine kK' fun _=>?_|refine kU' ?_|(apply LR.ev; (· apply Ev.load_rd; (· exact rfl); (· repeat (first | exact mH _ _ | apply mT)); (· first | exact rfl | exact bv_at (i := i) (by omega) (by omega))); (· exact rfl))|(apply idxX;(iterate 2 exact rfl);(iterate 2(first|omega|(dsimp only;omega)));exact rfl)|(apply addX;(iterate 2 exact rfl);(iterate 2(first|omega|(dsimp only;omega)));exact rfl)|(apply mulX;(iterate 2 exact rfl);(iterate 2(first|omega|(dsimp only;omega)));exact rfl)|(apply subX;(iterate 2 exact rfl);(iterate 2(first|omega|(dsimp only;omega)));exact rfl)|((first|refine kR' ?_ ?_|refine kQ' ?_ ?_);all_goals(intro hc;try simp only[hcs]at hc;try(exfalso;first|contradiction|omega))))
    all_goals try simp only [hval] at hc
    any_goals (
      apply At.again (i + 1, nacc) ⟨by show i + 1 ≤ l.length; omega, by show i + 1 ≤ 7; omega, hn, by show dec l = decF (8 - (i + 1)) (i + 1) nacc (l.drop (i + 1)); rw [hstep, if_neg (by omega)]; congr 1; omega⟩
      · (repeat (first | exact Out.refl _ _ | exact Out.mix | (apply Out.upd; (· exact rfl)) | (apply Out.updL; (· exact rfl)) | (apply Out.mixs; (· exact rfl))))
      · refine ⟨congrArg (Value.int .u64) hval, rfl, trivial⟩
      · exact fun w' hw' => hw'
      · show 8 - (i + 1) < 8 - i; omega)
    all_goals (
      (apply ret3; (· exact rfl); intro w' hS)
      refine ⟨?_, hS.toKeep⟩
      rw [hstep]
      first
      | (rw [if_pos (by assumption), if_pos (by omega)]; rfl)
      | (rw [if_pos (by assumption), if_neg (by omega)]
         show Value.tuple #[.int .i64 (IntKind.i64.wrap (orI _ _ _)), _, _] = _
         rw [hval, wrap_i64 (by omega) (by omega)]; rfl)
      | (rw [if_neg (by omega)]
         obtain rfl : i = 7 := by omega
         rfl)
      | (clear hS; omega))
  · have hne : ((i : Int) = (l.length : Int)) := by omega
    have hd2 : dec l = (0, 0, 3) := by
      rw [hd, List.drop_eq_nil_of_le (by omega)]
      obtain ⟨q, hq⟩ : ∃ q, 8 - i = q + 1 := ⟨7 - i, by omega⟩
      rw [hq]; rfl
    repeat'(first|refine kv' ?_|apply jJ|refine jE' ?_|refine jp' ?_|(apply jc;kernel_rfl)|refine kg' ?_|refine kG' ?_|refine kB' fun _=>?_|refine kA' fun _=>?_|refine kK' fun _=>?_|refine kU' ?_|(apply LR.ev; (· apply Ev.load_rd; (· exact rfl); (· repeat (first | exact mH _ _ | apply mT)); (· exact rfl)); (· exact rfl))|((first|refine kR' ?_ ?_|refine kQ' ?_ ?_);all_goals(intro hc;try simp only[hcs]at hc;try(exfalso;first|contradiction|omega))))
    (apply ret3; (· exact rfl); intro w' hS)
    exact ⟨by rw [hd2]; rfl, hS.toKeep⟩
end Go.Proofs.Ytphcnaafhcfakaa
