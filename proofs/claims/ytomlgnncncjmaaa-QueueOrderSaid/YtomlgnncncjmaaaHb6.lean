/-
  Memory, more: append; pieces of slices; make. Conditions: none; facts on one program's types come in as classes.
-/
import Derived.Test.YtomlgnncncjmaaaHb5
namespace Go.Hb

theorem run_builtin_append {P : Program} {f : Frm} {T T' : TypeId} {s x : Operand} {dst : Option Tmp} {p : String} {af : Array Edge} {g : Option (Nat × Bool)} {v v' : Value} {w w' : World} (hs : f.ev s = v) {u : Value} (hx : f.ev x = u)
    (h : (Builtin.append_ #[T, T] T' #[v, u]).run P w = .ok v' w') : (execOp f.ev ⟨dst, .call ⟨.builtin .append, [s, x].toArray, [T, T].toArray⟩, T', p, af, g⟩).run P w = .ok (.value v') w' := by
  simp only [execOp, resolve, invoke, builtin, Sem.run_bind, Sem.run_pure, Result.andThen_ok, List.map_toArray, List.map_cons, List.map_nil, hs, hx, h]

section
variable {P : Program} {f : Frm} {T T' : TypeId} {s x y : Operand} {v : Value} {w0 : World} {F : Nat → Prop} {L : List Asrt} {C : World → Prop}
variable {n : Nat} {ops rest : List Oper} {Q : Post} {p : String} {af : Array Edge} {d : Nat}

/-- append to a slice of one's own. -/
theorem LR.append {E : TypeId} {sz by_ k c m cx : Nat} {a ax : Option Addr} {xs news : List Value} {L' : Option Addr → Nat → List Asrt} [h : SliceOf P T E sz by_]
    (hs : f.ev s = .slice a k c) (hx : f.ev x = .slice ax m cx) (hsel : ∀ a' c', Sel L (osl (.slice a k c) E sz k xs) (osl (.slice a' (k + m) c') E sz (k + m) (xs ++ news)) (L' a' c'))
    (hrd : ∀ w, St w0 F L w → Rd w ax news) (hnone : ax = none → m = 0 ∧ cx = 0) (hl : news.length = m * sz) (h1 : news.all Value.oneCell' = true) (hbytes : (k + m) * by_ ≤ 140737488355328) (hmax : k + m ≤ maxLen) (hd : Nat.blt d n = true)
    (kk : ∀ a' c', LR false P n ops rest Q (upd f d (.slice a' (k + m) c')) (St w0 F (L' a' c'))) :
    LR false P n ops (⟨some d, .call ⟨.builtin .append, [s, x].toArray, [T, T].toArray⟩, T', p, af, none⟩ :: rest) Q f (St w0 F L) := by
  intro w hw b hb
  refine wpList_plain rfl fun K hK => ?_
  have hown : w.ownsRow 0 E sz (.slice a k c) k xs := hw.holds _ (hsel none 0).mem
  obtain ⟨v', w', hr, ho, hg, _, hblk⟩ := run_append_any (P := P) h w T' hown (hrd w hw) hnone hl h1 hbytes hmax
  obtain ⟨a', c', rfl⟩ := slice_form ho
  have hr' := run_builtin_append (P := P) (T' := T') (dst := some d) (p := p) (af := af) (g := none) hs hx hr
  rw [← hb.eval] at hr'
  simp only [Oper.wp, hr', Oper.upon_value]
  refine hK _ _ (kk a' c' w' ?_ _ (hb.put _ hd))
  exact hw.turn (hsel a' c') rfl (keep_of_grown hg fun k hk => hk) ho (fun k hk => hblk k hk) (osl.dep _ _ _ _ _)

/-- append to nil: a new slice. -/
theorem LR.append_nil {E : TypeId} {sz by_ m cx : Nat} {ax : Option Addr} {news : List Value} [h : SliceOf P T E sz by_]
    (hs : f.ev s = .slice none 0 0) (hx : f.ev x = .slice ax m cx)
    (hrd : ∀ w, St w0 F L w → Rd w ax news) (hnone : ax = none → m = 0 ∧ cx = 0) (hl : news.length = m * sz) (h1 : news.all Value.oneCell' = true) (hbytes : m * by_ ≤ 140737488355328) (hmax : m ≤ maxLen) (hd : Nat.blt d n = true)
    (kk : ∀ a' c', LR false P n ops rest Q (upd f d (.slice a' m c')) (St w0 F (osl (.slice a' m c') E sz m news :: L))) :
    LR false P n ops (⟨some d, .call ⟨.builtin .append, [s, x].toArray, [T, T].toArray⟩, T', p, af, none⟩ :: rest) Q f (St w0 F L) := by
  intro w hw b hb
  refine wpList_plain rfl fun K hK => ?_
  have hown : w.ownsRow 0 E sz (.slice none 0 0) 0 [] := World.ownsRow_nil w 0 E sz
  obtain ⟨v', w', hr, ho, hg, _, hblk⟩ := run_append_any (P := P) h w T' hown (hrd w hw) hnone hl h1 (by simpa using hbytes) (by simpa using hmax)
  simp only [Nat.zero_add, List.nil_append] at ho
  obtain ⟨a', c', rfl⟩ := slice_form ho
  have hr' := run_builtin_append (P := P) (T' := T') (dst := some d) (p := p) (af := af) (g := none) hs hx hr
  rw [← hb.eval] at hr'
  simp only [Oper.wp, hr', Oper.upon_value]
  refine hK _ _ (kk a' c' w' ?_ _ (hb.put _ hd))
  refine hw.push (keep_of_grown hg fun k hk => by simp [Value.ownBlock] at hk) ho (fun k hk => ?_) (osl.dep _ _ _ _ _)
  rcases hblk k hk with hx | hx
  · simp [Value.ownBlock] at hx
  · exact hx

/-- One's own block, whole, as a slice of one's own. -/
theorem St.own_osl {w : World} {b k sz : Nat} {cs : List Value} {E : TypeId} {L' : List Asrt} (h : St w0 F L w) (hs : Sel L (.own b (.cells cs.toArray E (0, 0))) (osl (.slice (some ⟨b, 0, none⟩) k k) E sz k cs) L')
    (hl : cs.length = k * sz) (hk : k ≤ maxLen) : St w0 F L' w := by
  refine h.turn hs rfl (St.refl w _) ?_ (fun j hj => ?_) (osl.dep _ _ _ _ _)
  · exact ⟨hl, .inr ⟨b, k, cs.toArray, rfl, Nat.zero_le _, h.own_at hs.mem, Nat.le_refl _, hk, by simpa using hl, by simp [List.take_of_length_le (Nat.le_of_eq hl)]⟩⟩
  · simp only [osl, Asrt.foot, Value.ownBlock, Option.some.injEq] at hj
    exact .inl hj.symm
theorem LR.own_osl {b k sz : Nat} {cs : List Value} {E : TypeId} {L' : List Asrt} {l : List Oper} (hs : Sel L (.own b (.cells cs.toArray E (0, 0))) (osl (.slice (some ⟨b, 0, none⟩) k k) E sz k cs) L')
    (hl : cs.length = k * sz) (hk : k ≤ maxLen) (kk : LR false P n ops l Q f (St w0 F L')) : LR false P n ops l Q f (St w0 F L) := LW.sub kk fun w hw => St.own_osl hw hs hl hk

/-! ### pieces -/
def subA (a : Option Addr) (c l sz : Nat) : Option Addr := if c = l then a else a.map (·.add (l * sz))

theorem Rd.spot {w : World} {ad : Addr} {xs : List Value} (h : Rd w (some ad) xs) (hne : xs ≠ []) : ad.spot = none := by
  cases xs with
  | nil => exact (hne rfl).elim
  | cons v r =>
    obtain ⟨ad', he, hc⟩ := h 0 v rfl
    cases he
    have e : ad.add 0 = ad := by simp [Addr.add]
    rw [e] at hc
    cases hs : ad.spot with
    | none => rfl
    | some q => simp [World.cell?, hs] at hc; split at hc <;> cases hc
theorem Rd.form {w : World} {a : Option Addr} {xs : List Value} (h : Rd w a xs) (hne : xs ≠ []) : ∃ b o, a = some ⟨b, o, none⟩ := by
  cases a with
  | none =>
    cases xs with
    | nil => exact (hne rfl).elim
    | cons v r => obtain ⟨ad', he, _⟩ := h 0 v rfl; cases he
  | some ad =>
    have hs := h.spot hne
    obtain ⟨b, o, sp⟩ := ad
    simp only at hs
    subst hs
    exact ⟨b, o, rfl⟩
theorem Rd.cell {w : World} {b o : Nat} {xs : List Value} (h : Rd w (some ⟨b, o, none⟩) xs) {j : Nat} {v : Value} (hj : xs[j]? = some v) : w.cell? ⟨b, o + j, none⟩ = some v := by
  obtain ⟨ad, he, hc⟩ := h j v hj
  cases he
  rwa [addr_add] at hc
theorem Rd.drop {w : World} {a : Option Addr} {xs : List Value} {c l sz : Nat} (h : Rd w a xs) (hc : c = l → xs.length ≤ l * sz) : Rd w (subA a c l sz) (xs.drop (l * sz)) := by
  by_cases hne : xs = []
  · subst hne; simpa using Rd.nil w _
  · obtain ⟨b, o, rfl⟩ := h.form hne
    intro j v hj
    rw [List.getElem?_drop] at hj
    have hcell := h.cell hj
    unfold subA
    by_cases hcl : c = l
    · have := hc hcl
      have hlt := (List.getElem?_eq_some_iff.1 hj).1
      omega
    · rw [if_neg hcl]
      refine ⟨_, rfl, ?_⟩
      show w.cell? (((⟨b, o, none⟩ : Addr).add (l * sz)).add j) = some v
      rw [addr_add, addr_add, Nat.add_assoc]
      exact hcell
theorem Rd.take {w : World} {a : Option Addr} {xs : List Value} (k : Nat) (h : Rd w a xs) : Rd w a (xs.take k) := by
  intro j v hj
  rw [List.getElem?_take] at hj
  split at hj
  · exact h j v hj
  · cases hj

theorem size_of_slice {E : TypeId} {sz by_ : Nat} (h : SliceOf P T E sz by_) (w : World) : (sizeOf E).run P w = .ok sz w := by
  have hinf := h.inf
  cases hi : P.info? E with
  | none => simp [hi] at hinf
  | some inf =>
    simp only [hi, Option.map_some, Option.some.injEq, Prod.mk.injEq] at hinf
    simp [sizeOf, typeInfo, hi, hinf.1]

/-- x[i:] -/
theorem Ev.slice_lo {E : TypeId} {sz by_ k c : Nat} {q : IntKind} {a : Option Addr} {i : Int} [h : SliceOf P T E sz by_] (hx : f.ev x = .slice a k c) (hy : f.ev y = .int q i) (h0 : 0 ≤ i) (h1 : i ≤ k) :
    Ev P C f (.slice T x (some y) none none) T' (.slice (subA a c i.toNat sz) (k - i.toNat) (c - i.toNat)) := fun w _ d p af g => by
  simp [execOp, hx, hy, Instr.sliceAt, Instr.slice, Instr.sliceBounds, Instr.sliceBound, asIntOf, run_underlying h.und, size_of_slice h, h0, h1, subA]
/-- x[:j] -/
theorem Ev.slice_hi {E : TypeId} {sz by_ k c : Nat} {q : IntKind} {a : Option Addr} {j : Int} [h : SliceOf P T E sz by_] (hx : f.ev x = .slice a k c) (hy : f.ev y = .int q j) (h0 : 0 ≤ j) (h1 : j ≤ c) :
    Ev P C f (.slice T x none (some y) none) T' (.slice (subA a c 0 sz) j.toNat c) := fun w _ d p af g => by
  simp [execOp, hx, hy, Instr.sliceAt, Instr.slice, Instr.sliceBounds, Instr.sliceBound, asIntOf, run_underlying h.und, size_of_slice h, h0, h1, subA]
/-- x[i:j] -/
theorem Ev.slice_lohi {E : TypeId} {sz by_ k c : Nat} {q q' : IntKind} {a : Option Addr} {i j : Int} {z : Operand} [h : SliceOf P T E sz by_] (hx : f.ev x = .slice a k c) (hy : f.ev y = .int q i) (hz : f.ev z = .int q' j) (h0 : 0 ≤ i) (h1 : i ≤ j) (h2 : j ≤ c) :
    Ev P C f (.slice T x (some y) (some z) none) T' (.slice (subA a c i.toNat sz) (j.toNat - i.toNat) (c - i.toNat)) := fun w _ d p af g => by
  have h3 : i ≤ (j.toNat : Int) := by omega
  simp [execOp, hx, hy, hz, Instr.sliceAt, Instr.slice, Instr.sliceBounds, Instr.sliceBound, asIntOf, run_underlying h.und, size_of_slice h, h0, h2, show 0 ≤ j by omega, subA, show i ≤ max j 0 by omega]
end
/-! ### loops: a round's ends -/
section
variable {α : Type} {M : List Nat} {f g : Frm} {I : α → Prop} {vs : α → List (Nat × Value)} {D : α → World → Prop} {μ : α → Nat} {i : α} {Q : Post} {C : World → Prop}
theorem At.again (j : α) (hi : I j) (ho : Out M f g) (hh : Has g (vs j)) (hd : ∀ w, C w → D j w) (hm : μ j < μ i) : At (again M f I vs D μ i Q) .normal g C := fun w hw => ⟨j, hi, ho, hh, hd w hw, hm⟩
theorem At.again_ret (h : At Q .ret g C) : At (Hb.again M f I vs D μ i Q) .ret g C := h
theorem At.again_exit {id : Nat} (h : At Q (.exit id) g C) : At (Hb.again M f I vs D μ i Q) (.exit id) g C := h
end

theorem LR.cls {P : Program} {n : Nat} {ops l : List Oper} {Q : Post} {f : Frm} {C : World → Prop} (h : ∀ w, C w → LR false P n ops l Q f (fun u => u = w)) : LR false P n ops l Q f C := fun w hw => h w hw w rfl

theorem St.addRd {w0 w : World} {F : Nat → Prop} {L : List Asrt} (h : St w0 F L w) {a : Option Addr} {xs : List Value} (hr : Rd w0 a xs) (hF : ∀ k, rdFoot a xs k → ¬ F k) : St w0 F (rdA a xs :: L) w :=
  h.old hr (fun k hk => ⟨hr.live k hk, hF k hk⟩) (Rd.dep a xs)
theorem St.rd1 {w : World} {a : Option Addr} {xs : List Value} (hr : Rd w a xs) : St w NoF [rdA a xs] w := (St.refl w NoF).addRd hr (fun _ _ h => h)
theorem St.rd2 {w : World} {a b : Option Addr} {xs ys : List Value} (hr : Rd w a xs) (hs : Rd w b ys) : St w NoF [rdA a xs, rdA b ys] w := ((St.refl w NoF).addRd hs (fun _ _ h => h)).addRd hr (fun _ _ h => h)

/-- Bytes as cells. -/
def bv (l : List Int) : List Value := l.map (Value.int .u8)
@[simp] theorem bv_length (l : List Int) : (bv l).length = l.length := by simp [bv]
theorem bv_get {l : List Int} {i : Nat} (h : i < l.length) : (bv l)[i]? = some (.int .u8 l[i]) := by simp [bv, h]
@[simp] theorem bv_nil : bv [] = [] := rfl
@[simp] theorem bv_append (l r : List Int) : bv (l ++ r) = bv l ++ bv r := by simp [bv]
@[simp] theorem bv_take (l : List Int) (k : Nat) : bv (l.take k) = (bv l).take k := by simp [bv, List.map_take]
@[simp] theorem bv_drop (l : List Int) (k : Nat) : bv (l.drop k) = (bv l).drop k := by simp [bv, List.map_drop]
theorem bv_at {l : List Int} {q i : Nat} (hq : q = i) (h : i < l.length) : (bv l)[q]? = some (.int .u8 (l[i]'h)) := by subst hq; exact bv_get h
theorem bv_one (l : List Int) : (bv l).all Value.oneCell' = true := by simp [bv, List.all_map, Function.comp_def, Value.oneCell']
def iv (l : List Int) : List Value := l.map (Value.int .i64)
@[simp] theorem iv_length (l : List Int) : (iv l).length = l.length := by simp [iv]
theorem iv_get {l : List Int} {i : Nat} (h : i < l.length) : (iv l)[i]? = some (.int .i64 l[i]) := by simp [iv, h]
section
variable {P : Program} {f : Frm} {T T' : TypeId} {x : Operand} {v : Value} {w0 : World} {F : Nat → Prop} {L : List Asrt}
/-- A cell of what may be read. -/
theorem Ev.load_rd {b o q : Nat} {xs : List Value} [h : One P T] (hx : f.ev x = .pointer (some ⟨b, o + q, none⟩)) (hm : rdA (some ⟨b, o, none⟩) xs ∈ L) (hc : xs[q]? = some v) : Ev P (St w0 F L) f (.load T x) T' v :=
  Ev.load hx fun w hw => (hw.rd_of hm).cell hc
/-- A cell of a slice of one's own. -/
theorem Ev.load_osl {b o q k c sz : Nat} {E : TypeId} {xs : List Value} [h : One P T] (hx : f.ev x = .pointer (some ⟨b, o + q, none⟩)) (hm : osl (.slice (some ⟨b, o, none⟩) k c) E sz k xs ∈ L) (hc : xs[q]? = some v) : Ev P (St w0 F L) f (.load T x) T' v :=
  Ev.load hx fun w hw => (hw.rd_of_own hm).cell hc
end
/-! ### an object as one assertion -/
section
variable {w0 w w' : World} {F : Nat → Prop} {R : List Asrt} {x y z : Asrt}
theorem St.merge (h : St w0 F (x :: y :: R) w) (hx : x.excl = true) (hy : y.excl = true) (hz : z.holds w) (hf : ∀ k, z.foot k → x.foot k ∨ y.foot k) (hd : z.dep) : St w0 F (z :: R) w := by
  obtain ⟨d1, d2⟩ := List.pairwise_cons.1 h.dis
  obtain ⟨d3, d4⟩ := List.pairwise_cons.1 d2
  refine ⟨h.os, h.tape, h.output, h.size, h.keep, ?_, ?_, ?_, ?_, ?_⟩
  · intro b hb; rcases List.mem_cons.1 hb with rfl | hb
    · exact hz
    · exact h.holds b (by simp [hb])
  · intro b hb; rcases List.mem_cons.1 hb with rfl | hb
    · intro k hk; rcases hf k hk with hk | hk
      · exact h.live x (by simp) k hk
      · exact h.live y (by simp) k hk
    · exact h.live b (by simp [hb])
  · intro b hb; rcases List.mem_cons.1 hb with rfl | hb
    · intro _ k hk hlt; rcases hf k hk with hk | hk
      · exact h.mine x (by simp) hx k hk hlt
      · exact h.mine y (by simp) hy k hk hlt
    · exact h.mine b (by simp [hb])
  · refine List.pairwise_cons.2 ⟨fun b hb _ k hk hk2 => ?_, d4⟩
    rcases hf k hk with hk | hk
    · exact d1 b (by simp [hb]) (by simp [hx]) k hk hk2
    · exact d3 b hb (by simp [hy]) k hk hk2
  · intro b hb; rcases List.mem_cons.1 hb with rfl | hb
    · exact hd
    · exact h.dep b (by simp [hb])
theorem St.split (h : St w0 F (z :: R) w) (hz : z.excl = true) (hx : x.holds w) (hy : y.holds w) (hfx : ∀ k, x.foot k → z.foot k) (hfy : ∀ k, y.foot k → z.foot k) (hdis : ∀ k, x.foot k → ¬ y.foot k) (dx : x.dep) (dy : y.dep) : St w0 F (x :: y :: R) w := by
  obtain ⟨d1, d2⟩ := List.pairwise_cons.1 h.dis
  refine ⟨h.os, h.tape, h.output, h.size, h.keep, ?_, ?_, ?_, ?_, ?_⟩
  · intro b hb; rcases List.mem_cons.1 hb with rfl | hb
    · exact hx
    · rcases List.mem_cons.1 hb with rfl | hb
      · exact hy
      · exact h.holds b (by simp [hb])
  · intro b hb; rcases List.mem_cons.1 hb with rfl | hb
    · exact fun k hk => h.live z (by simp) k (hfx k hk)
    · rcases List.mem_cons.1 hb with rfl | hb
      · exact fun k hk => h.live z (by simp) k (hfy k hk)
      · exact h.live b (by simp [hb])
  · intro b hb; rcases List.mem_cons.1 hb with rfl | hb
    · exact fun _ k hk hlt => h.mine z (by simp) hz k (hfx k hk) hlt
    · rcases List.mem_cons.1 hb with rfl | hb
      · exact fun _ k hk hlt => h.mine z (by simp) hz k (hfy k hk) hlt
      · exact h.mine b (by simp [hb])
  · refine List.pairwise_cons.2 ⟨fun b hb _ k hk hk2 => ?_, List.pairwise_cons.2 ⟨fun b hb _ k hk hk2 => ?_, d2⟩⟩
    · rcases List.mem_cons.1 hb with rfl | hb
      · exact hdis k hk hk2
      · exact d1 b hb (by simp [hz]) k (hfx k hk) hk2
    · exact d1 b hb (by simp [hz]) k (hfy k hk) hk2
  · intro b hb; rcases List.mem_cons.1 hb with rfl | hb
    · exact dx
    · rcases List.mem_cons.1 hb with rfl | hb
      · exact dy
      · exact h.dep b (by simp [hb])

/-- From a to a': nothing but a's blocks has turned; a' lies in these and in new ones. -/
structure Step (a a' : Asrt) (w w' : World) : Prop where
  keep : Keep a.foot w w'
  holds : a'.holds w'
  foot : ∀ k, a'.foot k → a.foot k ∨ (w.heap.size ≤ k ∧ k < w'.heap.size)
theorem St.one {a : Asrt} (hh : a.holds w) (hl : ∀ k, a.foot k → k < w.heap.size) (hd : a.dep) : St w a.foot [a] w :=
  ⟨rfl, rfl, rfl, Nat.le_refl _, fun _ _ _ => rfl, fun b hb => by simp at hb; subst hb; exact hh, fun b hb => by simp at hb; subst hb; exact hl, fun b hb _ k hk _ => by simp at hb; subst hb; exact hk, List.pairwise_singleton _ _, fun b hb => by simp at hb; subst hb; exact hd⟩
theorem St.step {a a' : Asrt} (h : St w a.foot (a' :: R) w') (he : a'.excl = true) : Step a a' w w' :=
  ⟨h.toKeep, h.holds a' (by simp), fun k hk => by
    by_cases hlt : k < w.heap.size
    · exact .inl (h.mine a' (by simp) he k hk hlt)
    · exact .inr ⟨by omega, h.live a' (by simp) k hk⟩⟩
theorem St.did {L L' : List Asrt} {a a' : Asrt} (h : St w0 F L w) (hs : Sel L a a' L') (he : a.excl = true) (st : Step a a' w w') (hd : a'.dep) : St w0 F L' w' := h.turn hs he st.keep st.holds st.foot hd
end
theorem LR.sub {P : Program} {n : Nat} {ops l : List Oper} {Q : Post} {f : Frm} {C D : World → Prop} (hs : ∀ w, C w → D w) (h : LR false P n ops l Q f D) : LR false P n ops l Q f C := LW.sub h hs
theorem At.sub {Q : Post} {e : Exit} {f : Frm} {C D : World → Prop} (hs : ∀ w, C w → D w) (h : At Q e f D) : At Q e f C := fun w hw => h w (hs w hw)
theorem LR.back {P : Program} {n : Nat} {ops l : List Oper} {Q : Post} {f : Frm} {C : World → Prop} {w : World} (hw : C w) (h : LR false P n ops l Q f C) : LW P n ops l Q f (fun u => u = w) := LW.sub h (fun _ e => e ▸ hw)
theorem St.toNew {w w' : World} {L : List Asrt} {v : Value} {E : TypeId} {sz n : Nat} {xs : List Value} (h : St w NoF L w') (hm : osl v E sz n xs ∈ L) : NewSl w w' v E sz n xs :=
  ⟨h.toKeep, ownsRow_base (h.holds _ hm) (fun k hk => Nat.le_of_not_lt fun hlt => h.mine _ hm rfl k hk hlt)⟩
theorem Rd.none_nil {w : World} {xs : List Value} (h : Rd w none xs) : xs = [] := by
  cases xs with
  | nil => rfl
  | cons v r => obtain ⟨ad, he, _⟩ := h 0 v rfl; cases he
theorem bv_eq_nil {l : List Int} (h : bv l = []) : l = [] := by cases l with | nil => rfl | cons b r => simp [bv] at h
theorem Rd.none_len {w : World} {a : Option Addr} {l : List Int} (h : Rd w a (bv l)) (ha : a = none) : l.length = 0 := by subst ha; rw [bv_eq_nil h.none_nil]; rfl
theorem NewSl.some_of {w w' : World} {a : Option Addr} {c n E sz : Nat} {xs : List Value} (h : NewSl w w' (.slice a n c) E sz n xs) : a = none → n = 0 ∧ c = 0 := by
  intro ha; subst ha
  rcases h.own.2 with ⟨he, hn⟩ | ⟨g, cap, cur, he, _⟩
  · simp only [Value.slice.injEq] at he; exact ⟨hn, he.2.2⟩
  · simp at he
theorem ownsRow_some {w : World} {base : Nat} {a : Option Addr} {c n E sz : Nat} {xs : List Value} (h : w.ownsRow base E sz (.slice a n c) n xs) : a = none → n = 0 ∧ c = 0 := by
  intro ha; subst ha
  rcases h.2 with ⟨he, hn⟩ | ⟨g, cap, cur, he, _⟩
  · simp only [Value.slice.injEq] at he; exact ⟨hn, he.2.2⟩
  · simp at he
theorem ownsRow_cap {w : World} {base : Nat} {a : Option Addr} {c n E sz : Nat} {xs : List Value} (h : w.ownsRow base E sz (.slice a n c) n xs) : n ≤ c := by
  rcases h.2 with ⟨he, hn⟩ | ⟨g, cap, cur, he, _, _, hnc, _⟩
  · omega
  · simp only [Value.slice.injEq] at he; omega
theorem St.cast {w0 w : World} {F : Nat → Prop} {L L' : List Asrt} (h : St w0 F L w) (e : L = L') : St w0 F L' w := e ▸ h
theorem St.tail1 {w0 w : World} {F : Nat → Prop} {L : List Asrt} {x : Asrt} (h : St w0 F (x :: L) w) : St w0 F L w := h.sub (List.sublist_cons_self x L)
theorem St.swap {w0 w : World} {F : Nat → Prop} {L : List Asrt} {x y : Asrt} (h : St w0 F (x :: y :: L) w) : St w0 F (y :: x :: L) w := by
  obtain ⟨d1, d2⟩ := List.pairwise_cons.1 h.dis
  obtain ⟨d3, d4⟩ := List.pairwise_cons.1 d2
  have hm : ∀ b, b ∈ y :: x :: L → b ∈ x :: y :: L := fun b hb => by simp at hb ⊢; rcases hb with h | h | h <;> simp [h]
  refine ⟨h.os, h.tape, h.output, h.size, h.keep, fun b hb => h.holds b (hm b hb), fun b hb => h.live b (hm b hb), fun b hb => h.mine b (hm b hb), ?_, fun b hb => h.dep b (hm b hb)⟩
  refine List.pairwise_cons.2 ⟨fun b hb hx k hk hk2 => ?_, List.pairwise_cons.2 ⟨fun b hb => d1 b (by simp [hb]), d4⟩⟩
  rcases List.mem_cons.1 hb with rfl | hb
  · exact d1 y (by simp) (by simpa [Bool.or_comm] using hx) k hk2 hk
  · exact d3 b hb hx k hk hk2
/-- Something new of one's own, and nothing else has turned. -/
structure New1 (a : Asrt) (w w' : World) : Prop where
  grew : Grew w w'
  holds : a.holds w'
  foot : ∀ k, a.foot k → w.heap.size ≤ k ∧ k < w'.heap.size
theorem St.new1 {w w' : World} {R : List Asrt} {a : Asrt} (h : St w NoF (a :: R) w') (he : a.excl = true) : New1 a w w' :=
  ⟨h.toKeep, h.holds a (List.Mem.head _), fun k hk => ⟨Nat.le_of_not_lt fun hlt => h.mine a (List.Mem.head _) he k hk hlt, h.live a (List.Mem.head _) k hk⟩⟩
theorem St.got {w0 w w' : World} {F : Nat → Prop} {L : List Asrt} {a : Asrt} (h : St w0 F L w) (hn : New1 a w w') (hd : a.dep) : St w0 F (a :: L) w' := h.push hn.grew hn.holds hn.foot hd
theorem Ev.load_at {P : Program} {C : World → Prop} {f : Frm} {T T' : TypeId} {x : Operand} {v : Value} {b o q : Nat} {xs : List Value} [h : One P T] (hx : f.ev x = .pointer (some ⟨b, o + q, none⟩)) (hr : ∀ w, C w → Rd w (some ⟨b, o, none⟩) xs) (hc : xs[q]? = some v) : Ev P C f (.load T x) T' v :=
  Ev.load hx fun w hw => (hr w hw).cell hc
theorem Out.mixs {M M2 : List Nat} {f f2 g : Frm} (hs : (M2.all fun t => M.contains t) = true) (h : Out M f f2) : Out M f (Hb.mix M2 g f2) := by
  intro t ht
  have : M2.contains t = false := by
    cases hx : M2.contains t with
    | false => rfl
    | true =>
      have := List.all_eq_true.1 hs t (by simpa using hx)
      rw [ht] at this; cases this
  simp only [Hb.mix, this, cond_false]
  exact h t ht
/-- From a to a', and b besides, out of a's blocks and new ones. -/
theorem St.did1 {w0 w w' : World} {F : Nat → Prop} {L L' R : List Asrt} {a a' b : Asrt} (h : St w0 F L w) (hs : Sel L a a' L') (he : a.excl = true) (he' : a'.excl = true) (hb : b.excl = true) (st : St w a.foot (a' :: b :: R) w') : St w0 F (b :: L') w' := by
  have hbm : b ∈ a' :: b :: R := List.Mem.tail _ (List.Mem.head _)
  have h' := h.did hs he (st.step he') (st.dep a' (List.Mem.head _))
  refine ⟨h'.os, h'.tape, h'.output, h'.size, h'.keep, ?_, ?_, ?_, ?_, ?_⟩
  · intro x hx; rcases List.mem_cons.1 hx with rfl | hx
    · exact st.holds _ hbm
    · exact h'.holds x hx
  · intro x hx; rcases List.mem_cons.1 hx with rfl | hx
    · exact st.live _ hbm
    · exact h'.live x hx
  · intro x hx; rcases List.mem_cons.1 hx with rfl | hx
    · intro _ k hk hlt
      exact h.mine a hs.mem he k (st.mine _ hbm hb k hk (Nat.lt_of_lt_of_le hlt h.size)) hlt
    · exact h'.mine x hx
  · refine List.pairwise_cons.2 ⟨fun x hx _ => ?_, h'.dis⟩
    refine hs.others h.dis he (fun x => ∀ k, b.foot k → ¬ x.foot k) (fun _ => True) (fun _ => True) ?_ ?_ x hx
    · obtain ⟨d1, _⟩ := List.pairwise_cons.1 st.dis
      exact fun k hk hk2 => d1 b (by simp) (by simp [he']) k hk2 hk
    · intro y hy hap k hk hk2
      by_cases hlt : k < w.heap.size
      · exact hap k (st.mine _ hbm hb k hk hlt) hk2
      · exact hlt (h.live y hy k hk2)
  · intro x hx; rcases List.mem_cons.1 hx with rfl | hx
    · exact st.dep _ hbm
    · exact h'.dep x hx
theorem St.osl_foot {a : Option Addr} {n c : Nat} {E sz : Nat} {xs : List Value} {k : Nat} (h : rdFoot a xs k) : (osl (.slice a n c) E sz n xs).foot k := by
  obtain ⟨_, ad, rfl, rfl⟩ := h; rfl
theorem St.perm {w0 w : World} {F : Nat → Prop} {L L' : List Asrt} (h : St w0 F L w) (hp : L.Perm L') : St w0 F L' w :=
  ⟨h.os, h.tape, h.output, h.size, h.keep, fun b hb => h.holds b (hp.mem_iff.2 hb), fun b hb => h.live b (hp.mem_iff.2 hb), fun b hb => h.mine b (hp.mem_iff.2 hb),
    (hp.pairwise_iff (fun {x y} hxy hx k hk hk2 => hxy (by simpa [Bool.or_comm] using hx) k hk2 hk)).1 h.dis, fun b hb => h.dep b (hp.mem_iff.2 hb)⟩
/-- The first of three goes behind the others. -/
theorem St.rot {w0 w : World} {F : Nat → Prop} {x y z : Asrt} (h : St w0 F [x, y, z] w) : St w0 F [y, z, x] w := h.perm ((List.Perm.swap y x [z]).trans ((List.Perm.swap z x []).cons y))
theorem St.apart {w0 w : World} {F : Nat → Prop} {R : List Asrt} {x y : Asrt} (h : St w0 F (x :: R) w) (hy : y ∈ R) (he : (x.excl || y.excl) = true) : ∀ k, x.foot k → ¬ y.foot k :=
  (List.pairwise_cons.1 h.dis).1 y hy he
theorem LR.qcall_fn {P : Program} {m : Bool} {n : Nat} {ops rest : List Oper} {Q : Post} {f : Frm} {C : World → Prop} {T : TypeId} {p : String} {af : Array Edge} {d : Nat} {v : Value} {g : FuncId} {xs : List Operand} {ts : Array TypeId} {x : Operand}
    (hx : f.ev x = .func (.func g) #[] #[]) [own : Own P g] (hd : Nat.blt d n = true)
    (h : ∀ w, C w → CallsTo P g (xs.map f.ev) w fun u w' => u = v ∧ C w') (k : LR m P n ops rest Q (upd f d v) C) :
    LR m P n ops (⟨some d, .call ⟨.value x, xs.toArray, ts⟩, T, p, af, none⟩ :: rest) Q f C :=
  LR.qcall_val (cap := []) hx hd (by simpa using h) k
end Go.Hb
