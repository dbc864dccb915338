/-
  Regions that draw their order: what only reads may be taken first; what makes or turns memory comes up alone. Conditions: none; nothing here speaks of one program.
-/
import Derived.Test.YtomlgnncncjmaaaHb6
import Derived.OrdersHeld
namespace Go.Hb

def only (K : Frm → World → Prop) : Post := fun e f w => e = .normal ∧ K f w
def lst (ops : List Oper) (done : List Nat) : Array Bool := done.foldl (fun l i => l.setIfInBounds i true) (Array.replicate ops.length false)
theorem lst_snoc (ops : List Oper) (done : List Nat) (i : Nat) : lst ops (done ++ [i]) = (lst ops done).setIfInBounds i true := by simp [lst]

section
variable {P : Program} {n : Nat} {ops : List Oper} {Q : Post} {f : Frm} {C S : World → Prop}

theorem wpAnyH_sub {md : Region.Mode} {opsA : Array Oper} {Q : Exit → Act → World → Prop} {S S' : World → Prop} (hs : ∀ w, S' w → S w) :
    ∀ (fuel : Nat) (listed : Array Bool) (a : Act) (w : World), wpAnyH P md opsA Q S' fuel listed a w → wpAnyH P md opsA Q S fuel listed a w
  | 0, _, _, _, h => h
  | fuel + 1, _, _, _, h => ⟨h.1, fun i hi => wpOp_mono (fun a' w' h' => ⟨hs _ h'.1, wpAnyH_sub hs fuel _ a' w' h'.2⟩) (h.2 i hi)⟩

/-- What is left of a drawn region, behind the operations 'done', whatever comes up; S holds all along. -/
def DW (P : Program) (n : Nat) (ops : List Oper) (Q : Post) (done : List Nat) (S : World → Prop) (f : Frm) (C : World → Prop) : Prop :=
  ∀ w, C w → ∀ a, Fits n a f → wpAnyH P .any ops.toArray (lift n (only fun f w => Q .normal f w)) S (ops.length - done.length) (lst ops done) a w

theorem CW.reg_held {id : Nat} (S : World → Prop) [hm : Mixed P] [hc : Drawn C] (h : DW P n ops Q [] S f C) : CW P n (.region id ops.toArray true) Q f C := by
  intro w hw a ha
  have h1 := h _ (hc.drew w hw) a ha
  have h2 := wp_region_held (id := id) hm.mixed (ops := ops.toArray) (by simpa [lst] using h1)
  refine Code.wp_mono (fun e a' w' hq => ?_) h2
  obtain ⟨f', hf', he, hq⟩ := hq
  subst he
  exact ⟨f', hf', hq⟩

theorem CW.reg_heldC {id : Nat} [hm : Mixed P] [hc : Drawn C] (h : DW P n ops Q [] C f C) : CW P n (.region id ops.toArray true) Q f C := CW.reg_held C h

def updO (f : Frm) (dst : Option Tmp) (v : Value) : Frm := match dst with | some d => upd f d v | none => f
/-- Operations that only read, in this order. -/
def QL (P : Program) (n : Nat) (ops : List Oper) (S : World → Prop) (K : Frm → Prop) : List Nat → Frm → Prop
  | [], f => K f
  | i :: r, f => ∃ o v, ops[i]? = some o ∧ (∀ d, o.dst = some d → d < n) ∧ (∀ a, Fits n a f → YieldsIf P ops.toArray S o v a) ∧ QL P n ops S K r (updO f o.dst v)

theorem blt_lt {a b : Nat} (h : Nat.blt a b = true) : a < b := by simpa using h
def headB (ops : Array Oper) : Array Bool → List Nat → Bool
  | _, [] => true
  | l, i :: r => (Region.ready .any ops l).contains i && Region.free .any ops l i && headB ops (l.setIfInBounds i true) r

theorem Fits.putO {a : Act} {f : Frm} (h : Fits n a f) (dst : Option Tmp) (v : Value) (hd : ∀ d, dst = some d → d < n) : Fits n (a.put dst v) (updO f dst v) := by
  cases dst with
  | none => exact h
  | some d => exact h.put v (by have := hd d rfl; simpa using this)

theorem DW.quiet_aux : ∀ (H : List Nat) (done : List Nat) (f : Frm) (C : World → Prop), headB ops.toArray (lst ops done) H = true → Region.noSelect ops.toArray = true → done.length + H.length ≤ ops.length → (∀ w, C w → S w) →
    QL P n ops S (fun f' => DW P n ops Q (done ++ H) S f' C) H f → DW P n ops Q done S f C
  | [], done, f, C, _, _, _, _, h => by simpa [QL] using h
  | i :: r, done, f, C, hB, hs, hl, hS, h => by
    simp only [headB, Bool.and_eq_true] at hB
    obtain ⟨⟨h1, h2⟩, h3⟩ := hB
    obtain ⟨o, v, ho, hd, hy, hk⟩ := h
    have ih := DW.quiet_aux r (done ++ [i]) _ C (by rw [lst_snoc]; exact h3) hs (by simp only [List.length_append, List.length_cons, List.length_nil] at hl ⊢; omega) hS (by simpa using hk)
    intro w hw a ha
    have ih' := ih w hw _ (ha.putO o.dst v hd)
    have e : ops.length - done.length = (ops.length - (done ++ [i]).length) + 1 := by simp only [List.length_append, List.length_cons, List.length_nil] at hl ⊢; omega
    rw [e]
    rw [lst_snoc] at ih'
    exact wpAnyH_take (by simpa using ho) hs h2 h1 (fun c a w hq => by obtain ⟨_, _, he, _⟩ := hq; cases he) (hy a ha) (hS w hw) ih'
theorem DW.quiet (H : List Nat) {done : List Nat} (hB : (headB ops.toArray (lst ops done) H && Region.noSelect ops.toArray && Nat.ble (done.length + H.length) ops.length) = true) (hS : ∀ w, C w → S w)
    (h : QL P n ops S (fun f' => DW P n ops Q (done ++ H) S f' C) H f) : DW P n ops Q done S f C := by
  simp only [Bool.and_eq_true] at hB
  exact DW.quiet_aux H done f C hB.1.1 hB.1.2 (Nat.le_of_ble_eq_true hB.2) hS h

section
variable {K : Frm → Prop} {r : List Nat} {i j dj d : Nat} {op : Op} {T : TypeId} {p : String} {af : Array Edge} {v : Value} {b c : Bool}
theorem QL.nil (h : K f) : QL P n ops S K [] f := h
theorem QL.ev (hi : ops[i]? = some ⟨some d, op, T, p, af, none⟩) (he : Ev P S f op T v) (hd : Nat.blt d n = true) (k : QL P n ops S K r (upd f d v)) : QL P n ops S K (i :: r) f :=
  ⟨_, v, hi, fun d' e => by cases e; exact blt_lt hd, fun a ha => .inl ⟨rfl, fun w hw => by rw [ha.eval]; exact he w hw _ _ _ _⟩, k⟩
theorem QL.evg (hi : ops[i]? = some ⟨some d, op, T, p, af, some (j, b)⟩) (hj : (ops[j]?).bind (·.dst) = some dj) (hb : f dj = .bool b) (he : Ev P S f op T v) (hd : Nat.blt d n = true) (k : QL P n ops S K r (upd f d v)) : QL P n ops S K (i :: r) f :=
  ⟨_, v, hi, fun d' e => by cases e; exact blt_lt hd, fun a ha => .inl ⟨by simp only [Region.wanted]; rw [yielded_of ha hj, hb]; simp, fun w hw => by rw [ha.eval]; exact he w hw _ _ _ _⟩, k⟩
theorem QL.skip_of (hi : ops[i]? = some ⟨some d, op, T, p, af, some (j, b)⟩) (hj : (ops[j]?).bind (·.dst) = some dj) (hb : ∀ b', f dj = .bool b' → b' ≠ b) (hd : Nat.blt d n = true) (k : QL P n ops S K r (upd f d undef)) : QL P n ops S K (i :: r) f :=
  ⟨_, undef, hi, fun d' e => by cases e; exact blt_lt hd, fun a ha => .inr ⟨by refine Bool.eq_false_iff.2 ?_; simp only [Region.wanted]; rw [yielded_of ha hj]; intro he; have he := eq_of_beq he; split at he; (· rename_i b' hf; cases he; exact hb _ hf rfl); (· cases he), rfl⟩, k⟩
theorem QL.no_t (hi : ops[i]? = some ⟨some d, op, T, p, af, some (j, true)⟩) (hj : (ops[j]?).bind (·.dst) = some dj) (hb : f dj = .bool false) (hd : Nat.blt d n = true) (k : QL P n ops S K r (upd f d undef)) : QL P n ops S K (i :: r) f :=
  QL.skip_of hi hj (fun b' e => by rw [hb] at e; cases e; decide) hd k
theorem QL.no_f (hi : ops[i]? = some ⟨some d, op, T, p, af, some (j, false)⟩) (hj : (ops[j]?).bind (·.dst) = some dj) (hb : f dj = .bool true) (hd : Nat.blt d n = true) (k : QL P n ops S K r (upd f d undef)) : QL P n ops S K (i :: r) f :=
  QL.skip_of hi hj (fun b' e => by rw [hb] at e; cases e; decide) hd k
theorem QL.no_u (hi : ops[i]? = some ⟨some d, op, T, p, af, some (j, b)⟩) (hj : (ops[j]?).bind (·.dst) = some dj) (hb : f dj = undef) (hd : Nat.blt d n = true) (k : QL P n ops S K r (upd f d undef)) : QL P n ops S K (i :: r) f :=
  QL.skip_of hi hj (fun b' e => by rw [hb] at e; cases e) hd k
theorem QL.split (hi : ops[i]? = some ⟨some d, op, T, p, af, some (j, b)⟩) (_hj : (ops[j]?).bind (·.dst) = some dj) (hb : f dj = .bool c)
    (yes : c = true → QL P n ops S K (i :: r) (upd f dj (.bool true))) (no : c = false → QL P n ops S K (i :: r) (upd f dj (.bool false))) : QL P n ops S K (i :: r) f := by
  cases c with
  | true => have := yes rfl; rwa [upd_self hb] at this
  | false => have := no rfl; rwa [upd_self hb] at this
end

/-- Where the walk goes on behind an operation that came up alone. -/
def dnext (P : Program) (n : Nat) (ops : List Oper) (Q : Post) (done : List Nat) (S : World → Prop) : Post :=
  only fun f' w' => ∃ S' C' : World → Prop, C' w' ∧ (∀ w, C' w → S' w) ∧ (∀ w, S' w → S w) ∧ DW P n ops Q done S' f' C'

theorem DW.loud (i : Nat) {done : List Nat} {o : Oper} (hi : ops[i]? = some o) (hr : ((match Region.ready .any ops.toArray (lst ops done) with | [j] => Nat.beq j i | _ => false) && Nat.blt done.length ops.length) = true)
    (h : LR false P n ops [o] (dnext P n ops Q (done ++ [i]) S) f C) : DW P n ops Q done S f C := by
  simp only [Bool.and_eq_true] at hr
  have hl : done.length < ops.length := blt_lt hr.2
  have hr1 : Region.ready .any ops.toArray (lst ops done) = [i] := by
    have := hr.1
    split at this
    · rename_i j he; rw [he, Nat.eq_of_beq_eq_true this]
    · cases this
  intro w hw a ha
  have e : ops.length - done.length = (ops.length - (done ++ [i]).length) + 1 := by simp only [List.length_append, List.length_cons, List.length_nil]; omega
  rw [e]
  refine wpAnyH_all hr1 (by simp) fun k hk => ?_
  have hk : k = i := by simpa using hk
  subst hk
  have h1 := h w hw a ha
  have ho : ops.toArray[k]? = some o := by simpa using hi
  unfold wpOp
  simp only [ho]
  simp only [wpList] at h1
  have conv : ∀ a' w', lift n (dnext P n ops Q (done ++ [k]) S) .normal a' w' → S w' ∧ wpAnyH P .any ops.toArray (lift n (only fun f w => Q .normal f w)) S (ops.length - (done ++ [k]).length) ((lst ops done).setIfInBounds k true) a' w' := by
    intro a' w' hq
    obtain ⟨f', hf', _, S', C', hC', hS', hSS, hD⟩ := hq
    refine ⟨hSS _ (hS' _ hC'), ?_⟩
    have := hD w' hC' a' hf'
    rw [lst_snoc] at this
    exact wpAnyH_sub hSS _ _ _ _ this
  split
  · rename_i hwn
    rw [if_pos hwn] at h1
    rcases h1 with h1 | ⟨_, a', w', f', hf', he, _⟩
    · refine .inl ?_
      have h2 := Oper.wp_mono conv h1
      unfold Oper.wp at h2 ⊢
      generalize (execOp a.eval o).run P w = r at *
      cases r with
      | ok nx w' =>
        cases nx <;> simp only [Oper.upon] at h2 ⊢
        case value => exact h2
        case skip => exact h2
        case defer => exact h2
        case enter g args =>
          refine Calls.mono h2 fun e w'' he => ?_
          cases e with
          | returned u => exact he
          | panicked c => obtain ⟨_, _, he, _⟩ := he; cases he
          | outgrown => obtain ⟨_, _, _, _, he, _⟩ := he; cases he
        case row => exact h2
      | halt x w' =>
        cases x <;> simp only [Oper.upon] at h2 ⊢
        case panic => obtain ⟨_, _, he, _⟩ := h2; cases he
    · cases he
  · rename_i hwn
    rw [if_neg hwn] at h1
    exact conv _ _ h1

theorem LR.stage {done : List Nat} {S S' : World → Prop} (hs : ∀ w, S' w → S w) (hc : ∀ w, C w → S' w) (h : DW P n ops Q done S' f C) : LR false P n ops [] (dnext P n ops Q done S) f C :=
  LR.nil fun w hw => ⟨rfl, S', C, hw, hc, hs, h⟩
theorem LR.stage_same {done : List Nat} {S : World → Prop} (hc : ∀ w, C w → S w) (h : DW P n ops Q done S f C) : LR false P n ops [] (dnext P n ops Q done S) f C := LR.stage (fun _ h => h) hc h
theorem LR.stage_any {done : List Nat} (h : DW P n ops Q done (fun _ => True) f C) : LR false P n ops [] (dnext P n ops Q done (fun _ => True)) f C := LR.stage_same (fun _ _ => trivial) h
theorem At.stage {done : List Nat} {S S' : World → Prop} (hs : ∀ w, S' w → S w) (hc : ∀ w, C w → S' w) (h : DW P n ops Q done S' f C) : At (dnext P n ops Q done S) .normal f C := fun w hw => ⟨rfl, S', C, hw, hc, hs, h⟩
theorem At.stage_same {done : List Nat} {S : World → Prop} (hc : ∀ w, C w → S w) (h : DW P n ops Q done S f C) : At (dnext P n ops Q done S) .normal f C := At.stage (fun _ h => h) hc h
theorem At.stage_any {done : List Nat} (h : DW P n ops Q done (fun _ => True) f C) : At (dnext P n ops Q done (fun _ => True)) .normal f C := At.stage_same (fun _ _ => trivial) h
theorem DW.done {done : List Nat} (hr : (Region.ready .any ops.toArray (lst ops done)).isEmpty = true) (h : At Q .normal f C) : DW P n ops Q done S f C :=
  fun w hw a ha => wpAnyH_done (List.isEmpty_iff.1 hr) ⟨f, ha, rfl, h w hw⟩ _
theorem DW.done_thn {y : Code} {done : List Nat} (hr : (Region.ready .any ops.toArray (lst ops done)).isEmpty = true) (h : CW P n y Q f C) : DW P n ops (thn P n y Q) done S f C := DW.done hr (At.thn h)
end
end Go.Hb
