/-
  Two objects as one; stores into an object, by its own law; make of slices. Conditions: none; nothing here speaks of one program.
-/
import Derived.Test.YtomlgnncncjmaaaHb7
import Derived.Laws.MakeOwn
namespace Go.Hb

/-! ### two objects as one -/
def both (x y : Asrt) : Asrt := .ex (fun k => x.foot k ∨ y.foot k) (fun w => x.holds w ∧ y.holds w ∧ (∀ k, x.foot k → ¬ y.foot k) ∧ (∀ k, x.foot k ∨ y.foot k → k < w.heap.size))

section
variable {w0 w w' : World} {F : Nat → Prop} {R : List Asrt} {x y x' y' : Asrt}
theorem lt_of_same {w w' : World} {k : Nat} (e : w'.heap[k]? = w.heap[k]?) (h : k < w.heap.size) : k < w'.heap.size := by
  rcases Nat.lt_or_ge k w'.heap.size with h' | h'
  · exact h'
  · rw [Array.getElem?_eq_none h', Array.getElem?_eq_getElem h] at e; cases e
theorem both_dep (dx : x.dep) (dy : y.dep) : (both x y).dep := by
  intro w w' hk ⟨h1, h2, h3, h4⟩
  exact ⟨dx w w' (fun k h => hk k (.inl h)) h1, dy w w' (fun k h => hk k (.inr h)) h2, h3, fun k h => lt_of_same (hk k h) (h4 k h)⟩
theorem both_live (h : (both x y).holds w) : ∀ k, (both x y).foot k → k < w.heap.size := h.2.2.2
theorem St.join (h : St w0 F (x :: y :: R) w) (hx : x.excl = true) (hy : y.excl = true) : St w0 F (both x y :: R) w := by
  refine h.merge hx hy ⟨h.holds x (by simp), h.holds y (by simp), (List.pairwise_cons.1 h.dis).1 y (by simp) (by simp [hx]), ?_⟩ (fun k hk => hk) (both_dep (h.dep x (by simp)) (h.dep y (by simp)))
  rintro k (hk | hk)
  · exact h.live x (by simp) k hk
  · exact h.live y (by simp) k hk
theorem St.part (h : St w0 F (both x y :: R) w) (dx : x.dep) (dy : y.dep) : St w0 F (x :: y :: R) w := by
  obtain ⟨h1, h2, h3, h4⟩ := h.holds (both x y) (List.Mem.head _)
  exact h.split rfl h1 h2 (fun k hk => .inl hk) (fun k hk => .inr hk) h3 dx dy

/-! ### stores, by an object's own law -/
def Stores (P : Program) (T : TypeId) (ad : Addr) (v : Value) (x x' : Asrt) : Prop := ∀ w, x.holds w → ∃ w', (storeVar T ad v).run P w = .ok () w' ∧ Step x x' w w'

theorem Stores.own {P : Program} {T : TypeId} {m b o : Nat} {v : Value} {cs vs : List Value} {E : TypeId} (h : Sz P T m) (hv : v.cells = vs.toArray) (h1 : vs.all Value.oneCell' = true) (hm : vs.length = m) (hb : o + vs.length ≤ cs.length) :
    Stores P T ⟨b, o, none⟩ v (.own b (.cells cs.toArray E (0, 0))) (.own b (.cells (splice cs o vs).toArray E (0, 0))) := by
  intro w hg
  refine ⟨_, run_storeVar h w b o v vs cs E hv hm hg hb h1, ?_⟩
  exact ⟨Keep.setRow w b _ _ E hg rfl, setRow_heap w b _ _ E (0, 0) hg, fun k hk => .inl hk⟩
theorem Stores.left {P : Program} {T : TypeId} {ad : Addr} {v : Value} (h : Stores P T ad v x x') (dy : y.dep) : Stores P T ad v (both x y) (both x' y) := by
  intro w ⟨h1, h2, h3, h4⟩
  obtain ⟨w', hr, st⟩ := h w h1
  have same : ∀ k, y.foot k → w'.heap[k]? = w.heap[k]? := fun k hk => st.keep.keep k (h4 k (.inr hk)) (fun hx => h3 k hx hk)
  refine ⟨w', hr, ⟨⟨st.keep.os, st.keep.tape, st.keep.output, st.keep.size, fun k hk hn => st.keep.keep k hk (fun hx => hn (.inl hx)), fun _ h => (by cases h), fun _ h => (by cases h), fun _ h => (by cases h), List.Pairwise.nil, fun _ h => (by cases h)⟩, ⟨st.holds, dy w w' same h2, ?_, ?_⟩, ?_⟩⟩
  · intro k hk hk2
    rcases st.foot k hk with hk | hk
    · exact h3 k hk hk2
    · have := h4 k (.inr hk2); omega
  · rintro k (hk | hk)
    · rcases st.foot k hk with hk | hk
      · exact Nat.lt_of_lt_of_le (h4 k (.inl hk)) st.keep.size
      · exact hk.2
    · exact Nat.lt_of_lt_of_le (h4 k (.inr hk)) st.keep.size
  · rintro k (hk | hk)
    · rcases st.foot k hk with hk | hk
      · exact .inl (.inl hk)
      · exact .inr hk
    · exact .inl (.inr hk)
theorem both_flip {w : World} (h : (both x y).holds w) : (both y x).holds w := ⟨h.2.1, h.1, fun k hk hk2 => h.2.2.1 k hk2 hk, fun k hk => h.2.2.2 k (Or.symm hk)⟩
theorem Stores.right {P : Program} {T : TypeId} {ad : Addr} {v : Value} (h : Stores P T ad v y y') (dx : x.dep) : Stores P T ad v (both x y) (both x y') := by
  intro w hw
  obtain ⟨w', hr, st⟩ := (Stores.left (y := x) h dx) w (both_flip hw)
  refine ⟨w', hr, ⟨⟨st.keep.os, st.keep.tape, st.keep.output, st.keep.size, fun k hk hn => st.keep.keep k hk (fun hx => hn (Or.symm hx)), fun _ h => (by cases h), fun _ h => (by cases h), fun _ h => (by cases h), List.Pairwise.nil, fun _ h => (by cases h)⟩, both_flip st.holds, fun k hk => ?_⟩⟩
  rcases st.foot k (Or.symm hk) with hk | hk
  · exact .inl (Or.symm hk)
  · exact .inr hk
end

section
variable {P : Program} {f : Frm} {T T' : TypeId} {s x y : Operand} {v : Value} {w0 : World} {F : Nat → Prop} {L L' : List Asrt} {C : World → Prop}
variable {n : Nat} {ops rest : List Oper} {Q : Post} {p : String} {af : Array Edge} {d : Nat}
theorem LR.store_obj {ad : Addr} {z z' : Asrt} (hx : f.ev x = .pointer (some ad)) (hv : f.ev y = v) (hs : Sel L z z' L') (he : z.excl = true) (hst : Stores P T ad v z z') (hd : z'.dep)
    (k : LR false P n ops rest Q f (St w0 F L')) : LR false P n ops (⟨none, .store T x y, T', p, af, none⟩ :: rest) Q f (St w0 F L) := by
  intro w hw a ha
  refine wpList_plain rfl fun K hK => ?_
  obtain ⟨w', hr', st⟩ := hst w (hw.holds z hs.mem)
  have hr : (execOp a.eval ⟨none, .store T x y, T', p, af, none⟩).run P w = .ok .skip w' := by
    rw [ha.eval]
    simp only [execOp, hx, hv, Instr.storeAt, Instr.sureAddr, Sem.run_bind, Sem.run_pure, Result.andThen_ok, hr']
  simp only [Oper.wp, hr, Oper.upon_skip]
  exact hK _ _ (k _ (hw.did hs he st hd) _ (ha.put_none undef))

/-! ### make of a slice -/
theorem made_flat (cs : List Value) (hc : 0 < cs.length) : ∀ m : Nat, (madeCells cs.toArray (m * cs.length)).toList = (List.replicate m cs).flatten := by
  intro m
  induction m with
  | zero => simp [madeCells]
  | succ m ih =>
    have e : (madeCells cs.toArray ((m + 1) * cs.length)).toList = (madeCells cs.toArray (m * cs.length)).toList ++ cs := by
      refine List.ext_getElem (by simp [Nat.succ_mul, size_madeCells]) fun i h1 h2 => ?_
      simp only [Array.getElem_toList, madeCells, Array.getElem_map, Array.getElem_range, Array.toList_map, Array.toList_range, List.size_toArray]
      have hi : i < (m + 1) * cs.length := by simpa [size_madeCells] using h1
      by_cases hlt : i < m * cs.length
      · rw [List.getElem_append_left (by simpa using hlt)]; simp
      · rw [List.getElem_append_right (by simpa using hlt)]
        have hmod : i % cs.length = i - m * cs.length := by
          have h3 : i = (i - m * cs.length) + cs.length * m := by rw [Nat.mul_comm cs.length m]; omega
          have h4 : i - m * cs.length < cs.length := by rw [Nat.succ_mul] at hi; omega
          rw [h3, Nat.add_mul_mod_self_left, Nat.mod_eq_of_lt h4, ← h3]
        have h5 : i - m * cs.length < cs.length := by rw [Nat.succ_mul] at hi; omega
        simp only [List.length_map, List.length_range]
        simp [hmod, h5]
    rw [e, ih, List.replicate_succ']
    simp

theorem LR.makeSlice {E : TypeId} {sz by_ m : Nat} {cs : List Value} {kl kc : IntKind} [h : SliceOf P T E sz by_] [hz : ZeroOf P E cs] (hx : f.ev x = .int kl (m : Int)) (hy : f.ev y = .int kc (m : Int)) (hb : by_ * m ≤ 281474976710656) (hm : m ≤ 281474976710656) (hl : Nat.beq cs.length sz = true) (hd : Nat.blt d n = true)
    (k : ∀ b, LR false P n ops rest Q (upd f d (.slice (some ⟨b, 0, none⟩) m m)) (St w0 F (.own b (.cells (List.replicate m cs).flatten.toArray E (0, 0)) :: L))) :
    LR false P n ops (⟨some d, .makeSlice T x y, T', p, af, none⟩ :: rest) Q f (St w0 F L) := by
  intro w hw a ha
  refine wpList_plain rfl fun K hK => ?_
  have hinf := h.inf
  have hpos := h.pos
  have hl' := Nat.eq_of_beq_eq_true hl
  obtain ⟨z, hzz, hzs⟩ := h.zero
  obtain ⟨z2, hz2, hzc⟩ := hz.zero
  cases hi : P.info? E with
  | none => simp [hi] at hinf
  | some inf =>
    simp only [hi, Option.map_some, Option.some.injEq, Prod.mk.injEq] at hinf
    simp only [hi, Option.bind_some] at hzz
    have e2 : z2 = z := by
      have := hz2 w
      simp [zeroValue, typeInfo, hi, hzz] at this
      exact this.symm
    subst e2
    have hb' : ((by_ * m : Nat) : Int) ≤ 281474976710656 := by omega
    have hr0 := run_make (P := P) w T E inf z2 h.und hi hzz kl kc (m : Int) (m : Int) (by omega) (by omega) (by rw [hinf.2, ← Int.natCast_mul]; exact hb') (by omega)
    have hr : (execOp a.eval ⟨some d, .makeSlice T x y, T', p, af, none⟩).run P w = .ok (.value (.slice (some ⟨w.heap.size, 0, none⟩) m m)) { w with heap := w.heap.push (.cells (List.replicate m cs).flatten.toArray E (0, 0)) } := by
      rw [ha.eval]
      have e3 : madeCells z2.cells (m * inf.size) = (List.replicate m cs).flatten.toArray := by
        rw [hzc, hinf.1, ← hl']
        exact Array.toList_inj.1 (by rw [made_flat cs (by omega)])
      simp only [Int.toNat_natCast, e3] at hr0
      simp only [execOp, hx, hy, Sem.run_bind, hr0, Result.andThen_ok, Sem.run_pure]
      rfl
    simp only [Oper.wp, hr, Oper.upon_value]
    exact hK _ _ (k w.heap.size _ (hw.alloc _) _ (ha.put _ hd))
end
end Go.Hb
