/-
  Operations of the functional frames: what an operation yields, guards, calls, regions that draw their order. Conditions: none; nothing here speaks of one program.
-/
import Derived.Test.YtomlgnncncjmaaaHb1
namespace Go.Hb

/-- In every world of the class the operation yields v and leaves the world as it is. -/
def Ev (P : Program) (C : World → Prop) (f : Frm) (op : Op) (T : TypeId) (v : Value) : Prop :=
  ∀ w, C w → ∀ (d : Option Tmp) (p : String) (af : Array Edge) (g : Option (Nat × Bool)), (execOp f.ev ⟨d, op, T, p, af, g⟩).run P w = .ok (.value v) w

/-- The rest of a region: in the text's order (m = false), or one walk for all orders (m = true). -/
def LR (m : Bool) (P : Program) (n : Nat) (ops l : List Oper) (Q : Post) (f : Frm) (C : World → Prop) : Prop :=
  match m with
  | false => LW P n ops l Q f C
  | true => ∀ a, Fits n a f → wpQuiet P ops.toArray C (fun a' => ∀ w', C w' → lift n Q .normal a' w') l a

theorem yielded_of {n : Nat} {a : Act} {f : Frm} (h : Fits n a f) {ops : List Oper} {j dj : Nat} (hj : (ops[j]?).bind (·.dst) = some dj) :
    yielded ops.toArray a.tmps j = (match f dj with | .bool b => some b | _ => none) := by
  unfold yielded
  rw [List.getElem?_toArray, hj]
  simp only [Option.bind_some]
  have := h.2.2 dj
  rw [Array.getD_eq_getD_getElem?] at this
  cases hx : a.tmps[dj]? with
  | none => rw [hx] at this; simp only [Option.getD_none] at this; rw [← this]; rfl
  | some v => rw [hx] at this; simp only [Option.getD_some] at this; rw [← this]; cases v <;> rfl

section
variable {m : Bool} {P : Program} {n : Nat} {ops rest : List Oper} {Q : Post} {f : Frm} {C : World → Prop} {op : Op} {T : TypeId} {p : String} {af : Array Edge} {d : Nat} {v : Value}

theorem LR.nil (h : At Q .normal f C) : LR m P n ops [] Q f C := by
  cases m with
  | false => exact fun w hw a ha => wpList_nil ⟨f, ha, h w hw⟩
  | true => exact fun a ha => wpQuiet_nil (fun w hw => ⟨f, ha, h w hw⟩)

theorem LR.nil_thn {y : Code} (h : CW P n y Q f C) : LR m P n ops [] (thn P n y Q) f C := LR.nil (At.thn h)

theorem LR.ev (he : Ev P C f op T v) (hd : Nat.blt d n = true) (k : LR m P n ops rest Q (upd f d v) C) : LR m P n ops (⟨some d, op, T, p, af, none⟩ :: rest) Q f C := by
  cases m with
  | false =>
    intro w hw a ha
    refine wpList_plain rfl fun K hK => ?_
    have hr := he w hw (some d) p af none
    rw [← ha.eval] at hr
    simp only [Oper.wp, hr, Oper.upon_value]
    exact hK _ _ (k w hw _ (ha.put v hd))
  | true =>
    intro a ha
    refine wpQuiet_step fun K hK => ?_
    simp only [Region.wanted, if_true]
    refine ⟨v, fun w hw => ?_, hK _ (k _ (ha.put v hd))⟩
    have hr := he w hw (some d) p af none
    rw [← ha.eval] at hr
    simp only [Oper.quietAt, hr, Oper.quietUpon]
    exact ⟨trivial, trivial⟩

/-- An operation of no slot that leaves the world as it is. -/
theorem LR.evn (he : Ev P C f op T v) (k : LR m P n ops rest Q f C) : LR m P n ops (⟨none, op, T, p, af, none⟩ :: rest) Q f C := by
  cases m with
  | false =>
    intro w hw a ha
    refine wpList_plain rfl fun K hK => ?_
    have hr := he w hw none p af none
    rw [← ha.eval] at hr
    simp only [Oper.wp, hr, Oper.upon_value]
    exact hK _ _ (k w hw _ ha)
  | true =>
    intro a ha
    refine wpQuiet_step fun K hK => ?_
    simp only [Region.wanted, if_true]
    refine ⟨v, fun w hw => ?_, hK _ (k _ ha)⟩
    have hr := he w hw none p af none
    rw [← ha.eval] at hr
    simp only [Oper.quietAt, hr, Oper.quietUpon]
    exact ⟨trivial, trivial⟩

/-! ### guards -/
theorem LR.guard_yes {dst : Option Tmp} {j dj : Nat} {b : Bool} (hj : (ops[j]?).bind (·.dst) = some dj) (hb : f dj = .bool b)
    (k : LR m P n ops (⟨dst, op, T, p, af, none⟩ :: rest) Q f C) : LR m P n ops (⟨dst, op, T, p, af, some (j, b)⟩ :: rest) Q f C := by
  have hw : ∀ a, Fits n a f → Region.wanted (⟨dst, op, T, p, af, some (j, b)⟩ : Oper) (yielded ops.toArray a.tmps) = true := by
    intro a ha
    simp only [Region.wanted]
    rw [yielded_of ha hj, hb]
    simp
  cases m with
  | false =>
    intro w hC a ha
    have := k w hC a ha
    simp only [wpList] at this ⊢
    rw [if_pos (by simp [Region.wanted])] at this
    rw [if_pos (hw a ha)]
    exact this
  | true =>
    intro a ha
    have := k a ha
    simp only [wpQuiet] at this ⊢
    rw [if_pos (by simp [Region.wanted])] at this
    rw [if_pos (hw a ha)]
    exact this

theorem LR.skip_of {j dj : Nat} {b : Bool} (hj : (ops[j]?).bind (·.dst) = some dj) (hb : (match f dj with | .bool b => some b | _ => none) ≠ some b) (hd : Nat.blt d n = true)
    (k : LR m P n ops rest Q (upd f d undef) C) : LR m P n ops (⟨some d, op, T, p, af, some (j, b)⟩ :: rest) Q f C := by
  have hw : ∀ a, Fits n a f → ¬ Region.wanted (⟨some d, op, T, p, af, some (j, b)⟩ : Oper) (yielded ops.toArray a.tmps) = true := by
    intro a ha
    simp only [Region.wanted]
    rw [yielded_of ha hj]
    simpa using hb
  cases m with
  | false =>
    intro w hC a ha
    simp only [wpList]
    rw [if_neg (hw a ha)]
    exact k w hC _ (ha.put undef hd)
  | true =>
    intro a ha
    simp only [wpQuiet]
    rw [if_neg (hw a ha)]
    exact k _ (ha.put undef hd)

theorem LR.guard_no_t {j dj : Nat} (hj : (ops[j]?).bind (·.dst) = some dj) (hb : f dj = .bool false) (hd : Nat.blt d n = true)
    (k : LR m P n ops rest Q (upd f d undef) C) : LR m P n ops (⟨some d, op, T, p, af, some (j, true)⟩ :: rest) Q f C :=
  LR.skip_of hj (by rw [hb]; simp) hd k
theorem LR.guard_no_f {j dj : Nat} (hj : (ops[j]?).bind (·.dst) = some dj) (hb : f dj = .bool true) (hd : Nat.blt d n = true)
    (k : LR m P n ops rest Q (upd f d undef) C) : LR m P n ops (⟨some d, op, T, p, af, some (j, false)⟩ :: rest) Q f C :=
  LR.skip_of hj (by rw [hb]; simp) hd k
theorem LR.guard_undef {j dj : Nat} {b : Bool} (hj : (ops[j]?).bind (·.dst) = some dj) (hb : f dj = undef) (hd : Nat.blt d n = true)
    (k : LR m P n ops rest Q (upd f d undef) C) : LR m P n ops (⟨some d, op, T, p, af, some (j, b)⟩ :: rest) Q f C :=
  LR.skip_of hj (by rw [hb]; simp [undef]) hd k

theorem upd_self {f : Frm} {d : Nat} {v : Value} (h : f d = v) : upd f d v = f := by
  funext t
  by_cases ht : t = d
  · subst ht; rw [upd_same, h]
  · rw [upd_ne _ _ _ _ ht]

theorem LR.guard_split {op' : Op} {dst : Option Tmp} {j dj : Nat} {b c : Bool} (_hj : (ops[j]?).bind (·.dst) = some dj) (hb : f dj = .bool c)
    (yes : c = true → LR m P n ops (⟨dst, op', T, p, af, some (j, b)⟩ :: rest) Q (upd f dj (.bool true)) C)
    (no : c = false → LR m P n ops (⟨dst, op', T, p, af, some (j, b)⟩ :: rest) Q (upd f dj (.bool false)) C) :
    LR m P n ops (⟨dst, op', T, p, af, some (j, b)⟩ :: rest) Q f C := by
  cases c with
  | true => have := yes rfl; rwa [upd_self hb] at this
  | false => have := no rfl; rwa [upd_self hb] at this

/-! ### calls -/
/-- Function g is one with a body of its own. -/
class Own (P : Program) (g : FuncId) : Prop where
  enters : ∀ (args : Array Value) (w : World), (callFunc g args).run P w = .ok (.enter g args) w

/-- The call's end: it comes back with a value of which K holds, in some world. -/
def CallsTo (P : Program) (g : FuncId) (args : List Value) (w : World) (K : Value → World → Prop) : Prop :=
  Calls P g args.toArray w fun e w' => ∃ v, e = .returned v ∧ K v w'

theorem CallsTo.mono {g : FuncId} {args : List Value} {w : World} {K K' : Value → World → Prop} (h : CallsTo P g args w K) (hk : ∀ v w', K v w' → K' v w') : CallsTo P g args w K' :=
  Calls.mono h fun _ _ ⟨v, he, hv⟩ => ⟨v, he, hk _ _ hv⟩

theorem run_call_func {g : FuncId} {xs : List Operand} {ts : Array TypeId} {dst : Option Tmp} {gd : Option (Nat × Bool)} (w : World) {x : Operand} {cap : List Value}
    (hx : f.ev x = .func (.func g) #[] cap.toArray) (own : Own P g) :
    (execOp f.ev ⟨dst, .call ⟨.value x, xs.toArray, ts⟩, T, p, af, gd⟩).run P w = .ok (.enter g (xs.map f.ev ++ cap).toArray) w := by
  have e1 : (xs.toArray.map f.ev) = (xs.map f.ev).toArray := by simp
  have e2 : (#[] ++ (xs.map f.ev).toArray : Array Value) ++ cap.toArray = (xs.map f.ev ++ cap).toArray := by simp
  simp only [execOp, resolve, hx, Deferred.ofValue, e1]
  show Sem.run P (callFunc g ((#[] ++ (xs.map f.ev).toArray : Array Value) ++ cap.toArray)) w = _
  rw [e2]
  exact own.enters _ w

/-- A call through a value: the function and what it has captured. -/
theorem LR.call_val {g : FuncId} {xs : List Operand} {ts : Array TypeId} {x : Operand} {cap : List Value} (hx : f.ev x = .func (.func g) #[] cap.toArray) [own : Own P g] (hd : Nat.blt d n = true)
    (h : ∀ w, C w → CallsTo P g (xs.map f.ev ++ cap) w fun v w' => LW P n ops rest Q (upd f d v) (fun u => u = w')) :
    LR false P n ops (⟨some d, .call ⟨.value x, xs.toArray, ts⟩, T, p, af, none⟩ :: rest) Q f C := by
  intro w hw a ha
  refine wpList_plain rfl fun K hK => ?_
  have hr := run_call_func (T := T) (p := p) (af := af) (ts := ts) (dst := some d) (gd := none) (xs := xs) w hx own
  rw [← ha.eval] at hr
  simp only [Oper.wp, hr, Oper.upon_enter]
  rw [ha.eval]
  refine Calls.mono (h w hw) fun e w' ⟨v, he, hk⟩ => ?_
  subst he
  exact hK _ _ (hk w' rfl _ (ha.put v hd))

theorem LR.call_val_n {g : FuncId} {xs : List Operand} {ts : Array TypeId} {x : Operand} {cap : List Value} (hx : f.ev x = .func (.func g) #[] cap.toArray) [own : Own P g]
    (h : ∀ w, C w → CallsTo P g (xs.map f.ev ++ cap) w fun _ w' => LW P n ops rest Q f (fun u => u = w')) :
    LR false P n ops (⟨none, .call ⟨.value x, xs.toArray, ts⟩, T, p, af, none⟩ :: rest) Q f C := by
  intro w hw a ha
  refine wpList_plain rfl fun K hK => ?_
  have hr := run_call_func (T := T) (p := p) (af := af) (ts := ts) (dst := none) (gd := none) (xs := xs) w hx own
  rw [← ha.eval] at hr
  simp only [Oper.wp, hr, Oper.upon_enter]
  rw [ha.eval]
  refine Calls.mono (h w hw) fun e w' ⟨v, he, hk⟩ => ?_
  subst he
  exact hK _ _ (hk w' rfl _ ha)

/-- A call that yields one value, whatever the world of the class, and stays within the class. -/
theorem LR.qcall_val {g : FuncId} {xs : List Operand} {ts : Array TypeId} {x : Operand} {cap : List Value} (hx : f.ev x = .func (.func g) #[] cap.toArray) [own : Own P g] (hd : Nat.blt d n = true)
    (h : ∀ w, C w → CallsTo P g (xs.map f.ev ++ cap) w fun u w' => u = v ∧ C w') (k : LR m P n ops rest Q (upd f d v) C) :
    LR m P n ops (⟨some d, .call ⟨.value x, xs.toArray, ts⟩, T, p, af, none⟩ :: rest) Q f C := by
  cases m with
  | false => exact LR.call_val hx hd fun w hw => (h w hw).mono fun u w' ⟨hu, hC⟩ => by subst hu; exact LW.sub k (fun _ e => e ▸ hC)
  | true =>
    intro a ha
    refine wpQuiet_step fun K hK => ?_
    simp only [Region.wanted, if_true]
    refine ⟨v, fun w hw => ?_, hK _ (k _ (ha.put v hd))⟩
    have hr := run_call_func (T := T) (p := p) (af := af) (ts := ts) (dst := some d) (gd := none) (xs := xs) w hx own
    rw [← ha.eval] at hr
    simp only [Oper.quietAt, hr, Oper.quietUpon]
    rw [ha.eval]
    exact ⟨trivial, Calls.mono (h w hw) fun e w' ⟨u, he, hu, hC⟩ => by subst hu; exact ⟨he, hC⟩⟩

theorem LR.call {g : FuncId} {xs : List Operand} {ts : Array TypeId} [own : Own P g] (hd : Nat.blt d n = true)
    (h : ∀ w, C w → CallsTo P g (xs.map f.ev) w fun v w' => LW P n ops rest Q (upd f d v) (fun u => u = w')) :
    LR false P n ops (⟨some d, .call ⟨.value (.func g), xs.toArray, ts⟩, T, p, af, none⟩ :: rest) Q f C :=
  LR.call_val (cap := []) rfl hd (by simpa using h)
theorem LR.call_n {g : FuncId} {xs : List Operand} {ts : Array TypeId} [own : Own P g]
    (h : ∀ w, C w → CallsTo P g (xs.map f.ev) w fun _ w' => LW P n ops rest Q f (fun u => u = w')) :
    LR false P n ops (⟨none, .call ⟨.value (.func g), xs.toArray, ts⟩, T, p, af, none⟩ :: rest) Q f C :=
  LR.call_val_n (cap := []) rfl (by simpa using h)
theorem LR.qcall {g : FuncId} {xs : List Operand} {ts : Array TypeId} [own : Own P g] (hd : Nat.blt d n = true)
    (h : ∀ w, C w → CallsTo P g (xs.map f.ev) w fun u w' => u = v ∧ C w') (k : LR m P n ops rest Q (upd f d v) C) :
    LR m P n ops (⟨some d, .call ⟨.value (.func g), xs.toArray, ts⟩, T, p, af, none⟩ :: rest) Q f C :=
  LR.qcall_val (cap := []) rfl hd (by simpa using h) k

theorem LW.within {l : List Oper} {w : World} (hw : C w) (h : LW P n ops l Q f C) : LW P n ops l Q f (fun u => u = w) := LW.sub h (fun _ e => e ▸ hw)
theorem LR.within {l : List Oper} {w : World} (hw : C w) (h : LR false P n ops l Q f C) : LW P n ops l Q f (fun u => u = w) := LW.sub h (fun _ e => e ▸ hw)

/-! ### regions -/
theorem CW.reg {id : Nat} {l : List Oper} (h : LR false P n l l Q f C) : CW P n (.region id l.toArray false) Q f C := CW.region h

class Mixed (P : Program) : Prop where
  mixed : P.follows .mixedOrders = true
class Drawn (C : World → Prop) : Prop where
  drew : ∀ w, C w → C { w with drawn := w.drawn + 1 }

theorem CW.reg_draw {id : Nat} {l : List Oper} [hm : Mixed P] [hc : Drawn C] (hB : Region.lexB .any l.toArray = true) (h : LR true P n l l Q f C) : CW P n (.region id l.toArray true) Q f C := by
  intro w hw a ha
  refine wp_region_quiet (C := C) hm.mixed hB (hc.drew w hw) ?_
  exact h a ha

/-! ### the call's own frame -/
def start (args : List Value) : Frm := fun t => args.getD t undef

def fin (P : Program) (fn : Func) (n : Nat) (R : Ending → World → Prop) : Post := fun e f w => ∀ a, Fits n a f → bodyPost P fn R e a w

theorem enter {g : FuncId} {fn : Func} {c : Code} {args : List Value} {R : Ending → World → Prop} {w : World} (hf : P.funcs[g]? = some fn) (hb : fn.body = some c)
    (hn : n = args.length + (fn.ntmps - args.length)) (h : CW P n c (fin P fn n R) (start args) (fun u => u = w)) : Calls P g args.toArray w R := by
  refine calls_of_wp hf hb ?_
  refine Code.wp_mono (fun e a w' hq => ?_) (h w rfl _ ⟨rfl, by simp [hn], fun t => ?_⟩)
  · obtain ⟨f', hf', hq⟩ := hq
    exact hq a hf'
  · simp only [start, Array.getD_eq_getD_getElem?, List.getD_eq_getElem?_getD]
    by_cases ht : t < args.length
    · rw [Array.getElem?_append_left (by simpa using ht)]; simp
    · rw [Array.getElem?_append_right (by simpa using ht)]
      rw [List.getElem?_eq_none (by omega)]
      simp only [Option.getD_none, Array.getElem?_replicate]
      split <;> rfl

theorem fin_ret1 {fn : Func} {R : Ending → World → Prop} {t : Tmp} (hr : fn.results = #[.tmp t]) (h : ∀ w, C w → R (.returned (f t)) w) : At (fin P fn n R) .ret f C := by
  intro w hw a ha
  refine bodyPost_ret (results_tmp hr _ _ _) ha.1 ?_
  rw [ha.2.2]; exact h w hw
theorem fin_ret2 {fn : Func} {R : Ending → World → Prop} {t u : Tmp} (hr : fn.results = #[.tmp t, .tmp u]) (h : ∀ w, C w → R (.returned (.tuple #[f t, f u])) w) : At (fin P fn n R) .ret f C := by
  intro w hw a ha
  refine bodyPost_ret (results_tmp2 hr _ _ _) ha.1 ?_
  rw [ha.2.2, ha.2.2]; exact h w hw
theorem results_tmp3' {fn : Func} {t u s : Tmp} (h : fn.results = #[.tmp t, .tmp u, .tmp s]) (tmps : Array Value) (P : Program) (w : World) :
    (results fn tmps).run P w = .ok (.tuple #[tmps.getD t undef, tmps.getD u undef, tmps.getD s undef]) w := by
  simp [results, h]
theorem fin_ret3 {fn : Func} {R : Ending → World → Prop} {t u s : Tmp} (hr : fn.results = #[.tmp t, .tmp u, .tmp s]) (h : ∀ w, C w → R (.returned (.tuple #[f t, f u, f s])) w) : At (fin P fn n R) .ret f C := by
  intro w hw a ha
  refine bodyPost_ret (results_tmp3' hr _ _ _) ha.1 ?_
  rw [ha.2.2, ha.2.2, ha.2.2]; exact h w hw
theorem fin_end0 {fn : Func} {R : Ending → World → Prop} (hr : fn.results = #[]) (h : ∀ w, C w → R (.returned (.tuple #[])) w) : At (fin P fn n R) .normal f C := by
  intro w hw a ha
  exact bodyPost_end (results_none hr _ _ _) ha.1 (h w hw)
theorem fin_ret0 {fn : Func} {R : Ending → World → Prop} (hr : fn.results = #[]) (h : ∀ w, C w → R (.returned (.tuple #[])) w) : At (fin P fn n R) .ret f C := by
  intro w hw a ha
  exact bodyPost_ret (results_none hr _ _ _) ha.1 (h w hw)
end
end Go.Hb
