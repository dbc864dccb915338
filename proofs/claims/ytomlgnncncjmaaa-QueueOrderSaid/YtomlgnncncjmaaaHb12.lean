/-
  Stores into a slice of one's own. Conditions: none; nothing here speaks of one program.
-/
import Derived.Test.YtomlgnncncjmaaaHb11
import Derived.StillTail
namespace Go.Hb

theorem Stores.osl {P : Program} {T : TypeId} {q b o i n c : Nat} {v : Value} {vs xs : List Value} {E : TypeId} {sz : Nat} (h : Sz P T q) (hv : v.cells = vs.toArray) (h1 : vs.all Value.oneCell' = true) (hm : vs.length = q) (hb : i + vs.length ≤ xs.length) :
    Stores P T ⟨b, o + i, none⟩ v (osl (.slice (some ⟨b, o, none⟩) n c) E sz n xs) (osl (.slice (some ⟨b, o, none⟩) n c) E sz n (splice xs i vs)) := by
  intro w hw
  have hw' : w.ownsRow 0 E sz (.slice (some ⟨b, o, none⟩) n c) n xs := hw
  obtain ⟨hl, hr⟩ := hw'
  rcases hr with ⟨he, _⟩ | ⟨g, cap, cur, he, hbg, hg, hnc, hcm, hcs, htake⟩
  · cases he
  simp only [Value.slice.injEq, Option.some.injEq, Addr.mk.injEq, and_true, true_and] at he
  obtain ⟨⟨rfl, rfl⟩, rfl⟩ := he
  have hxs : xs.length ≤ cur.toList.length := by rw [← htake]; simp; omega
  have hg' : w.heap[b]? = some (.cells cur.toList.toArray E (0, 0)) := by simpa using hg
  have hrun := run_storeVar (P := P) h w b i v vs cur.toList E hv hm hg' (by omega) h1
  rw [Nat.zero_add]
  refine ⟨_, hrun, ⟨Keep.setRow w b _ _ E hg' rfl, ?_, fun k hk => .inl hk⟩⟩
  refine ⟨by simp [splice]; omega, .inr ⟨b, c, (splice cur.toList i vs).toArray, rfl, hbg, setRow_heap w b _ _ E (0, 0) hg', hnc, hcm, ?_, ?_⟩⟩
  · simp [splice]; simp at hxs; omega
  · have e2 : splice cur.toList i vs = splice xs i vs ++ cur.toList.drop xs.length := by
      have e3 : cur.toList = xs ++ cur.toList.drop xs.length := by
        conv => lhs; rw [← List.take_append_drop xs.length cur.toList]
        congr 1
        rw [← htake]; simp
      rw [e3]
      unfold splice
      rw [List.take_append_of_le_length (by omega), List.drop_append_of_le_length (by omega)]
      simp
    have e4 : (splice xs i vs).length = xs.length := by simp [splice]; omega
    show (splice cur.toList i vs).take _ = splice xs i vs
    rw [e2]
    rw [List.take_append_of_le_length (by omega), List.take_of_length_le (by omega)]
theorem LR_cls_cw {P : Program} {n : Nat} {c : Code} {Q : Post} {f : Frm} {C : World → Prop} (h : ∀ w, C w → CW P n c Q f (fun u => u = w)) : CW P n c Q f C := fun w hw => h w hw w rfl
theorem go_eq {P : Program} {n : Nat} {g : FuncId} {fn : Func} {c : Code} {args : List Value} {K : Value → World → Prop} {w : World}
    (hf : P.funcs[g]? = some fn) (hb : fn.body = some c) (hn : n = args.length + (fn.ntmps - args.length)) (h : CW P n c (finK P fn n K) (start args) (fun u => u = w)) : CallsTo P g args w K := enter hf hb hn h
theorem splice_bv (l : List Int) (i : Nat) (x : Int) (h : i < l.length) : splice (bv l) i [.int .u8 x] = bv (l.set i x) := by
  unfold splice bv
  rw [List.set_eq_take_append_cons_drop, if_pos h]
  simp

/-! ### a drawn region that reads and computes, and then does the rest in a row -/
theorem wpStill_mono' {P : Program} {ops : Array Oper} {w : World} {Q Q' : Act → Prop} : ∀ {l : List Oper} {a : Act}, wpStill P ops w Q l a → (∀ a, Q a → Q' a) → wpStill P ops w Q' l a
  | [], a, h, hq => hq _ h
  | o :: r, a, h, hq => by
    simp only [wpStill] at h ⊢
    split
    · rename_i hw
      rw [if_pos hw] at h
      exact Oper.still_mono (fun a' h' => wpStill_mono' h' hq) h
    · rename_i hw
      rw [if_neg hw] at h
      exact wpStill_mono' h hq
/-- Operations that leave the world as it is; behind them K holds. -/
def TW (P : Program) (n : Nat) (ops l : List Oper) (K : Frm → Prop) (f : Frm) (C : World → Prop) : Prop :=
  ∀ w, C w → ∀ a, Fits n a f → wpStill P ops.toArray w (fun a' => ∃ f', Fits n a' f' ∧ K f') l a
section
variable {P : Program} {n : Nat} {ops rest : List Oper} {K : Frm → Prop} {f : Frm} {C : World → Prop} {op : Op} {T : TypeId} {p : String} {af : Array Edge} {d : Nat} {v : Value} {Q : Post}
theorem TW.nil (h : K f) : TW P n ops [] K f C := fun _ _ _ ha => wpStill_nil ⟨f, ha, h⟩
theorem TW.ev (he : Ev P C f op T v) (hd : Nat.blt d n = true) (k : TW P n ops rest K (upd f d v) C) : TW P n ops (⟨some d, op, T, p, af, none⟩ :: rest) K f C := by
  intro w hw a ha
  refine wpStill_step fun K' hK => ?_
  simp only [Region.wanted, if_true]
  have hr := he w hw (some d) p af none
  rw [← ha.eval] at hr
  simp only [Oper.still, hr, Oper.stillUpon_value]
  exact hK _ (k w hw _ (ha.put v hd))
theorem TW.yes {dst : Option Tmp} {j dj : Nat} {b : Bool} (hj : (ops[j]?).bind (·.dst) = some dj) (hb : f dj = .bool b) (k : TW P n ops (⟨dst, op, T, p, af, none⟩ :: rest) K f C) : TW P n ops (⟨dst, op, T, p, af, some (j, b)⟩ :: rest) K f C := by
  intro w hw a ha
  have hwt : Region.wanted (⟨dst, op, T, p, af, some (j, b)⟩ : Oper) (yielded ops.toArray a.tmps) = true := by
    simp only [Region.wanted]; rw [yielded_of ha hj, hb]; simp
  have := k w hw a ha
  simp only [wpStill] at this ⊢
  rw [if_pos (by simp [Region.wanted])] at this
  rw [if_pos hwt]
  exact this
theorem TW.no {j dj : Nat} {b : Bool} (hj : (ops[j]?).bind (·.dst) = some dj) (hb : noV (f dj) b = true) (hd : Nat.blt d n = true) (k : TW P n ops rest K (upd f d undef) C) : TW P n ops (⟨some d, op, T, p, af, some (j, b)⟩ :: rest) K f C := by
  intro w hw a ha
  have hwt : ¬ Region.wanted (⟨some d, op, T, p, af, some (j, b)⟩ : Oper) (yielded ops.toArray a.tmps) = true := by
    simp only [Region.wanted]; rw [yielded_of ha hj]
    cases hx : f dj <;> rw [hx] at hb <;> simp [noV] at hb ⊢
    exact fun e => hb e
  have := k w hw _ (ha.put undef hd)
  simp only [wpStill]
  rw [if_neg hwt]
  exact this
theorem TW.call {g : FuncId} {xs : List Operand} {ts : Array TypeId} [own : Own P g] (hd : Nat.blt d n = true)
    (h : ∀ w, C w → CallsTo P g (xs.map f.ev) w fun u w' => u = v ∧ w' = w) (k : TW P n ops rest K (upd f d v) C) :
    TW P n ops (⟨some d, .call ⟨.value (.func g), xs.toArray, ts⟩, T, p, af, none⟩ :: rest) K f C := by
  intro w hw a ha
  refine wpStill_step fun K' hK => ?_
  simp only [Region.wanted, if_true]
  have hr := run_call_func (f := f) (T := T) (p := p) (af := af) (ts := ts) (dst := some d) (gd := none) (xs := xs) (cap := []) (x := .func g) w rfl own
  rw [← ha.eval] at hr
  simp only [Oper.still, hr, Oper.stillUpon]
  rw [ha.eval, List.append_nil]
  exact ⟨trivial, v, Calls.mono (h w hw) fun e w' ⟨u, he, hu, hC⟩ => by subst hu; exact ⟨he, hC⟩, hK _ (k w hw _ (ha.put v hd))⟩
theorem CW.reg_tail (k : Nat) {id : Nat} {l : List Oper} [hm : Mixed P] [hc : Drawn C] (hB : Region.lexTailB .any l.toArray k = true)
    (h : TW P n l (l.take k) (fun f' => LR false P n l (l.drop k) Q f' C) f C) : CW P n (.region id l.toArray true) Q f C := by
  intro w hw a ha
  refine wp_region_still_tail k hm.mixed hB ?_
  have hd := hc.drew w hw
  have := h _ hd a ha
  refine wpStill_mono' this fun a' ⟨f', hf', hk⟩ => hk _ hd a' hf'
end
end Go.Hb
